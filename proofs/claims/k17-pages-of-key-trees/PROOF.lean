import PyProof.Rows.All
import Wide.All
import OpenK.AllK
import Wide.FinOn
import HandS.ForMost
import HandS.ForExc
import HandS.Wide
import HandS.IsInst
import HandS.More
import HandS.RevRange
import HandS.TupAny
import HandS.TupLe
import HandS.SortInts
import HandS.Small
import HandS.Codes
import HandS.WideBits
import HandS.ExcIs
import HandS.SetFor
import HandS.Deep
import HandS.DeepEq
import HandS.HotCalls
import HandS.SuiteRaise
import HandS.TupMul
import PySem.Challenge.RW_nearvault_k17_pages_of_key_trees
set_option Elab.async false
set_option linter.all false
set_option maxRecDepth 100000
set_option maxHeartbeats 4000000
/-! Nearvault: what all claims share. -/
namespace NV
open PySem L2

/-! ### packaged callables -/
section
variable (P : Program) (w : World) (K : PySem.W.Frag) (mg : Str → Option Value) (base : Heap)
/-- the def that the module's name x holds keeps its promise -/
def GF (CX : CXT) (k : Nat) (x : Str) (sp : Sp) : Prop := ∃ f fd ps, FnOk P w K mg base CX k f fd ps sp ∧ mg x = some (.ref f) ∧ PySem.W.keepIn K (.ref f) = true ∧ Binds K fd ps []
/-- the method m of the class at C -/
def GM (CX : CXT) (k : Nat) (C : Addr) (m : Str) (sp : Sp) : Prop := ∃ f fd ps, FnOk P w K mg base CX k f fd ps sp ∧ Meth K C m f ∧ Binds K fd ps []
/-- the class at C by its __init__ -/
def GC (CX : CXT) (k : Nat) (x : Str) (C : Addr) (sp : Sp) : Prop := ∃ f fd ps, FnOk P w K mg base CX k f fd ps sp ∧ Mk K C f ∧ mg x = some (.ref C) ∧ Binds K fd ps []
end

section
variable {X : Cx} {CX : CXT} {k : Nat} {x : Str} {sp : Sp} {E : L2.St → XK} {p pos apos : Pos} {e o : Expr} {es : List Expr} {t : TA} {ta : TE} {C : Addr} {m : Str} {pl : Sem Bool}
theorem pass0S : ∀ σ, PassesAt CX0 X σ ((fun _ => E0) σ) := fun _ _ _ _ _ _ _ h => h.elim
theorem passN : ∀ σ, PassesAt (L2.CX X.prog X.w) X σ ((fun _ => E0) σ) := fun σ pins H s e s' I c => passL pins σ H s e s' I c
theorem pe_g (G : GF X.prog X.w X.K X.mg X.base CX k x sp) (hr : Room k X.A) (hx : ∀ σ, PassesAt CX X σ (E σ)) (ha : PA X (e :: es) t) (hg : Gl X x := by rfl)
    (hdb : (x == ("__debug__" : Str)) = false := by decide) (he : starEach (e :: es) X.env = (false, eval e X.env) :: starEach es X.env := by rfl) (hpl : (backTo pos (starEach es X.env)).any (·.1) = false := by rfl) :
    PE X (.Call (.Name x p) (e :: es) [] pos) (tCallS sp E t) := by
  obtain ⟨f, fd, ps, F, hm, hk, hb⟩ := G
  exact pe_callS F hr hg hm hk hb hx ha hdb he hpl
theorem pe_g0 (G : GF X.prog X.w X.K X.mg X.base CX k x sp) (hr : Room k X.A) (hx : ∀ σ, PassesAt CX X σ (E σ)) (hg : Gl X x := by rfl)
    (hdb : (x == ("__debug__" : Str)) = false := by decide) : PE X (.Call (.Name x p) [] [] pos) (tCallS sp E tNil) := by
  obtain ⟨f, fd, ps, F, hm, hk, hb⟩ := G
  refine ⟨fun pins s σ H Q I h => wpAny_Call_Name_kw (ld_glob I hg hm ?_ hdb)⟩
  exact PySem.W.callWith_K0 I.kIn hk (run_fnS (us := []) F hr hb (hx σ) I .nil h)
/-- o.m(e, ..), what is raised wished for at the caller's slots -/
def tMethS (C : Addr) (m : Str) (sp : Sp) (E : L2.St → XK) (ta : TE) (t : TA) : TE := fun σ H Q => ta σ H fun x H1 => ∃ a dx fs, x = .ref a ∧ H1 a = some (.ins C dx fs) ∧ fs.lookup m = none ∧ t σ H1 fun vs H2 => sp (.ref a :: vs) H2 Q (E σ)
theorem pe_gm (c : Cls X.K C) (G : GM X.prog X.w X.K X.mg X.base CX k C m sp) (ho : PE X o ta) (hr : Room k X.A) (hx : ∀ σ, PassesAt CX X σ (E σ)) (ha : PA X (e :: es) t)
    (he : starEach (e :: es) X.env = (false, eval e X.env) :: starEach es X.env := by rfl) (hpl : (backTo pos (starEach es X.env)).any (·.1) = false := by rfl)
    (ht : eval (.Call (.Attribute o m apos) (e :: es) [] pos) X.env = (do
      let ov ← eval o X.env; standAt apos.atName; let (f, first) ← holding [ov] (getMethod ov m pl); callWith pos f first (backTo pos (starEach (e :: es) X.env)) (backToKw pos (keywordEach [] X.env))) := by rfl) :
    PE X (.Call (.Attribute o m apos) (e :: es) [] pos) (tMethS C m sp E ta t) := by
  obtain ⟨f, fd, ps, F, hm, hb⟩ := G
  refine ⟨fun pins s σ H Q I h => PySem.W.methodCall_KW (pl := pl) (thn (ho.run pins s σ H _ I h) fun u s1 ⟨y, H1, I1, ry, a, dx, fs, ey, ea, l, q⟩ => ?_) ht⟩
  subst ey
  cases (show u = Value.ref a from ry)
  refine getmeth_ok I1 ea c hm l (PySem.W.callWith_K (first := [.ref a]) (h₀ := X.base) I.ok.mod.kin hm.kp (thn (ha.run pos pins s1 σ H1 _ I1 q) fun us s2 ⟨vs, H2, I2, r, q2⟩ => ⟨I2.kIn, ?_⟩) he hpl)
  exact run_fnS (us := .ref a :: us) (vs := .ref a :: vs) F hr hb (hx σ) I2 (.cons rfl r) q2
theorem pe_gm0 (c : Cls X.K C) (G : GM X.prog X.w X.K X.mg X.base CX k C m sp) (ho : PE X o ta) (hr : Room k X.A) (hx : ∀ σ, PassesAt CX X σ (E σ))
    (ht : eval (.Call (.Attribute o m apos) [] [] pos) X.env = (do
      let ov ← eval o X.env; standAt apos.atName; let (f, first) ← holding [ov] (getMethod ov m pl); callWith pos f first (backTo pos (starEach [] X.env)) (backToKw pos (keywordEach [] X.env))) := by rfl) :
    PE X (.Call (.Attribute o m apos) [] [] pos) (tMethS C m sp E ta tNil) := by
  obtain ⟨f, fd, ps, F, hm, hb⟩ := G
  refine ⟨fun pins s σ H Q I h => PySem.W.methodCall_KW (pl := pl) (thn (ho.run pins s σ H _ I h) fun u s1 ⟨y, H1, I1, ry, a, dx, fs, ey, ea, l, q⟩ => ?_) ht⟩
  subst ey
  cases (show u = Value.ref a from ry)
  exact getmeth_ok I1 ea c hm l (PySem.W.callWith_K0 (first := [.ref a]) I1.kIn hm.kp (run_fnS (us := [.ref a]) (vs := [.ref a]) F hr hb (hx σ) I1 (.cons rfl .nil) q))
/-- C(e, ..), what is raised wished for at the caller's slots -/
def tMakeS (C : Addr) (sp : Sp) (E : L2.St → XK) (t : TA) : TE := fun σ H Q => t σ H fun vs H1 => ∀ x dx, H1 x = none → H1 dx = none → dx ≠ x →
  sp (.ref x :: vs) (upd (upd H1 dx (.own x)) x (.ins C dx [])) (fun v H2 => v = .non ∧ Q (.ref x) H2) (E σ)
theorem run_mkS {pins : List (Addr × Obj)} {σ : L2.St} {H : Hp} {s : Shared} {Q : VK} {us : List Value} {vs : List V} {f : Addr} {fd : FuncData} {ps : List Str} (M : Mk X.K C f) (F : FnOk X.prog X.w X.K X.mg X.base CX k f fd ps sp)
    (hr : Room (k + 1) X.A) (hb : Binds X.K fd ps []) (hx : PassesAt CX X σ (E σ)) (I : Inv X pins σ H s) (r : Vals vs us)
    (h : ∀ x dx, H x = none → H dx = none → dx ≠ x → sp (.ref x :: vs) (upd (upd H dx (.own x)) x (.ins C dx [])) (fun v H2 => v = .non ∧ Q (.ref x) H2) (E σ)) :
    wpAny (model X.prog X.w) X.A (call (.ref C) us) (EP X pins σ Q) X.xe s := by
  have z := h (s.heap.objs.size + 1) s.heap.objs.size (I.hok.fresh (Nat.le_succ _)) (I.hok.fresh (Nat.le_refl _)) (Nat.ne_of_lt (Nat.lt_succ_self _))
  have J := Inv.made (C := C) I
  have rr : Vals (V.ref (s.heap.objs.size + 1) :: vs) (Value.ref (s.heap.objs.size + 1) :: us) := .cons rfl r
  have len : (Value.ref (s.heap.objs.size + 1) :: us).length = ps.length := rr.length.symm.trans (F.len _ _ _ _ z)
  have b := hb _ (Value.ref (s.heap.objs.size + 1) :: us) J.kIn (by rw [List.append_nil]; exact len)
  rw [List.append_nil] at b
  refine wpAny_call (make_map (f := f) I.kIn M.makes M.init (beq_iff_eq.mp M.fn) (codeAny_mono (F.run _ X.stack _ _ _ _ _ _ _ (hr.make C us []) (J.env0.make C us []) b rr z) fun res s' hq => ?_))
  cases res with
  | error e => exact hx pins _ _ e s' J hq
  | ok fl =>
    cases fl with
    | ret u =>
      obtain ⟨v, H', I3, rv, ev, q3⟩ := J.after hq
      subst ev
      exact ⟨rv, V.ref (s.heap.objs.size + 1), H', I3, rfl, q3⟩
    | next => cases hq
    | brk => cases hq
    | cont => cases hq
theorem pe_gc (G : GC X.prog X.w X.K X.mg X.base CX k x C sp) (hr : Room (k + 1) X.A) (hx : ∀ σ, PassesAt CX X σ (E σ)) (ha : PA X (e :: es) t) (hg : Gl X x := by rfl)
    (hdb : (x == ("__debug__" : Str)) = false := by decide) (he : starEach (e :: es) X.env = (false, eval e X.env) :: starEach es X.env := by rfl) (hpl : (backTo pos (starEach es X.env)).any (·.1) = false := by rfl) :
    PE X (.Call (.Name x p) (e :: es) [] pos) (tMakeS C sp E t) := by
  obtain ⟨f, fd, ps, F, M, hm, hb⟩ := G
  refine ⟨fun pins s σ H Q I h => wpAny_Call_Name_kw (ld_glob I hg hm ?_ hdb)⟩
  exact PySem.W.callWith_K (h₀ := X.base) I.ok.mod.kin M.kp (thn (ha.run pos pins s σ H _ I h) fun us s1 ⟨vs, H1, I1, r, q⟩ => ⟨I1.kIn, run_mkS M F hr hb (hx σ) I1 r q⟩) he hpl
theorem pe_gc0 (G : GC X.prog X.w X.K X.mg X.base CX k x C sp) (hr : Room (k + 1) X.A) (hx : ∀ σ, PassesAt CX X σ (E σ)) (hg : Gl X x := by rfl)
    (hdb : (x == ("__debug__" : Str)) = false := by decide) : PE X (.Call (.Name x p) [] [] pos) (tMakeS C sp E tNil) := by
  obtain ⟨f, fd, ps, F, M, hm, hb⟩ := G
  refine ⟨fun pins s σ H Q I h => wpAny_Call_Name_kw (ld_glob I hg hm ?_ hdb)⟩
  exact PySem.W.callWith_K0 I.kIn M.kp (run_mkS (us := []) M F hr hb (hx σ) I .nil h)
end

/-! ### heaps: what a step keeps -/
/-- what never changes -/
def Fix : HO → Prop
  | .tup _ => True
  | .frz _ _ => True
  | _ => False
/-- all that was tracked is as it was, but at F (where what never changes is kept too) -/
def Kp (F : Addr → Prop) (H H' : Hp) : Prop := ∀ b o, H b = some o → (F b → Fix o) → H' b = some o
abbrev F0 : Addr → Prop := fun _ => False
abbrev F1 (a : Addr) : Addr → Prop := fun b => b = a
theorem Kp.refl {F : Addr → Prop} (H : Hp) : Kp F H H := fun _ _ h _ => h
theorem Kp.get {F : Addr → Prop} {H H' : Hp} {b : Addr} {o : HO} (s : Kp F H H') (h : H b = some o) (n : ¬ F b) : H' b = some o := s b o h fun z => (n z).elim
theorem Kp.fix {F : Addr → Prop} {H H' : Hp} {b : Addr} {o : HO} (s : Kp F H H') (h : H b = some o) (n : Fix o) : H' b = some o := s b o h fun _ => n
theorem Kp.tup {F : Addr → Prop} {H H' : Hp} {b : Addr} {xs : List V} (s : Kp F H H') (h : H b = some (.tup xs)) : H' b = some (.tup xs) := s.fix h trivial
theorem Kp.free {F : Addr → Prop} {H H' : Hp} {b : Addr} (s : Kp F H H') (h : H' b = none) (n : ¬ F b) : H b = none := by
  cases e : H b with
  | none => rfl
  | some o => rw [s.get e n] at h; cases h
theorem Kp.mono {F G : Addr → Prop} {H H' : Hp} (s : Kp F H H') (h : ∀ b, F b → G b ∨ H b = none) : Kp G H H' := fun b o e n => s b o e fun f => by
  rcases h b f with g | g
  · exact n g
  · rw [e] at g; cases g
theorem Kp.trans {F G : Addr → Prop} {H H1 H2 : Hp} (s : Kp F H H1) (t : Kp G H1 H2) (h : ∀ b, G b → F b ∨ H b = none) : Kp F H H2 := fun b o e n =>
  t b o (s b o e n) fun g => by
    rcases h b g with f | f
    · exact n f
    · rw [e] at f; cases f
theorem Kp.new {H : Hp} {p : Addr} {o : HO} (h : H p = none) : Kp F0 H (upd H p o) := fun b u e _ => by
  rw [upd_ne (ne_of_none e h)]
  exact e
theorem Kp.put {H : Hp} {l : Addr} {o u : HO} (h : H l = some u) (n : ¬ Fix u) : Kp (F1 l) H (upd H l o) := fun b v e k => by
  have nb : b ≠ l := fun z => by
    subst z; rw [h] at e; cases e
    exact n (k rfl)
  rw [upd_ne nb]
  exact e
theorem upd_id {H : Hp} {a : Addr} {o : HO} (h : H a = some o) : upd H a o = H := by
  funext b; unfold upd
  by_cases e : b = a
  · rw [if_pos e, e, h]
  · rw [if_neg e]
theorem Kp.same {H H' : Hp} (s : Same H H') : Kp F0 H H' := fun b o e _ => s b o e
theorem Kp.to_same {H H' : Hp} (s : Kp F0 H H') : Same H H' := fun b o e => s b o e fun z => z.elim
theorem Kp.sqT {F : Addr → Prop} {K : PySem.W.Frag} {H H' : Hp} {a : Addr} {xs : List V} (s : Kp F H H') (h : SqT K H a xs) : SqT K H' a xs := by
  rcases h with (h | ⟨o, h⟩) | h
  · exact .inl (.inl (s.fix h trivial))
  · exact .inl (.inr ⟨o, s.fix h trivial⟩)
  · exact .inr h
theorem Kp.sqL {F : Addr → Prop} {K : PySem.W.Frag} {H H' : Hp} {a : Addr} {xs : List V} (s : Kp F H H') (h : SqL K H a xs) (n : ¬ F a) : SqL K H' a xs := by
  rcases h with (h | ⟨o, h⟩) | h
  · exact .inl (.inl (s.get h n))
  · exact .inl (.inr ⟨o, s.fix h trivial⟩)
  · exact .inr h

/-- the script: read, never written -/
def Sc (K : PySem.W.Frag) (H : Hp) (sc : Addr) (ns : List Int) : Prop := (∃ o, H sc = some (.frz o (.lst (ns.map V.int)))) ∨ ∀ H', SqL K H' sc (ns.map V.int)
theorem Sc.sq {K : PySem.W.Frag} {H : Hp} {sc : Addr} {ns : List Int} (h : Sc K H sc ns) : SqL K H sc (ns.map V.int) := by
  rcases h with ⟨o, h⟩ | h
  · exact .inl (.inr ⟨o, h⟩)
  · exact h H
theorem Sc.kp {K : PySem.W.Frag} {F : Addr → Prop} {H H' : Hp} {sc : Addr} {ns : List Int} (s : Kp F H H') (h : Sc K H sc ns) : Sc K H' sc ns := by
  rcases h with ⟨o, h⟩ | h
  · exact .inl ⟨o, s.fix h trivial⟩
  · exact .inr h

theorem Sc.of {K : PySem.W.Frag} {H : Hp} {a : Addr} {ns : List Int} (o : Only H) (h : SqL K H a (ns.map V.int)) : Sc K H a ns := by
  rcases h with (h | ⟨f, h⟩) | h
  · rcases o a with e | ⟨f, xs, e⟩
    · rw [h] at e; cases e
    · rw [h] at e; cases e
  · exact .inl ⟨f, h⟩
  · exact .inr fun _ => .inr h
/-- a new list, a new tuple -/
def rNewL (xs : List V) (H : Hp) (Q : VK) : Prop := xs.length ≤ sizeLine ∧ ∀ p, H p = none → Q (.ref p) (upd H p (.lst xs))
def rNewT (xs : List V) (H : Hp) (Q : VK) : Prop := xs.length ≤ sizeLine ∧ ∀ p, H p = none → Q (.ref p) (upd H p (.tup xs))

/-! ### readings under names of our own, and the steps that run them -/
section
variable {K : PySem.W.Frag} {σ : L2.St} {H : Hp} {Q : VK} {D : Ends} {ta tb tc te : TE} {t u : TS} {tt tt' : TT} {x y z v : V} {i : Nat} {g : TG} {r r' : R2} {vs : List V} {a p : Addr}
theorem x_seq (h : t { D with nx := u D } σ H) : tSeq t u D σ H := h
theorem x_cut (M : L2.St → Hp → Prop) (h : t { D with nx := M } σ H) (h2 : ∀ σ' H', M σ' H' → u D σ' H') : C8.tCut t u D σ H := ⟨M, h, h2⟩
theorem x_next (h : D.nx σ H) : tNext D σ H := h
theorem x_asg (h : te σ H fun x H1 => g x σ H1 D.nx) : tAsg te g D σ H := h
theorem x_drop (h : te σ H fun _ H1 => D.nx σ H1) : tDrop te D σ H := h
theorem x_ret (h : te σ H D.rt) : tRet te D σ H := h
theorem x_retN (h : D.rt .non H) : tRetN D σ H := h
theorem x_ifS (h : tt σ H fun b H1 => if b = true then t D σ H1 else u D σ H1) : tIfS tt t u D σ H := h
theorem x_var (e : σ[i]? = some (some v)) (h : Q v H) : tVar i σ H Q := ⟨v, e, h⟩
theorem x_c (h : Q v H) : tC v σ H Q := h
theorem x_op (h : ta σ H fun x H1 => tb σ H1 fun y H2 => r x y H2 Q) : tOp r ta tb σ H Q := h
theorem x_un {r : V → Hp → VK → Prop} (h : ta σ H fun x H1 => r x H1 Q) : tUn r ta σ H Q := h
theorem x_neg {f : Int → V} {m : Int} (h : Q (f m) H) : rU f (.int m) H Q := ⟨m, rfl, h⟩
theorem x_I0 {f : Int → Int → V} {m n : Int} (h : Q (f m n) H) : rI0 f (.int m) (.int n) H Q := ⟨m, n, rfl, rfl, h⟩
theorem x_I {C : Int → Int → Prop} {f : Int → Int → V} {m n : Int} (c : C m n) (h : Q (f m n) H) : rI C f (.int m) (.int n) H Q := ⟨m, n, rfl, rfl, c, h⟩
theorem x_eqI {m n : Int} (h : Q (.bl (decide (m = n))) H) : rEq (.int m) (.int n) H Q := ⟨rfl, by rw [show decide (V.int m = V.int n) = decide (m = n) by simp]; exact h⟩
theorem x_neI {m n : Int} (h : Q (.bl (!decide (m = n))) H) : rNe (.int m) (.int n) H Q := ⟨rfl, by rw [show decide (V.int m = V.int n) = decide (m = n) by simp]; exact h⟩
theorem x_eqS {m n : Str} (h : Q (.bl (decide (m = n))) H) : rEq (.str m) (.str n) H Q := ⟨rfl, by rw [show decide (V.str m = V.str n) = decide (m = n) by simp]; exact h⟩
theorem x_neS {m n : Str} (h : Q (.bl (!decide (m = n))) H) : rNe (.str m) (.str n) H Q := ⟨rfl, by rw [show decide (V.str m = V.str n) = decide (m = n) by simp]; exact h⟩
theorem x_eqB {m n : Bool} (h : Q (.bl (decide (m = n))) H) : rEq (.bl m) (.bl n) H Q := ⟨rfl, by rw [show decide (V.bl m = V.bl n) = decide (m = n) by simp]; exact h⟩
theorem x_neB {m n : Bool} (h : Q (.bl (!decide (m = n))) H) : rNe (.bl m) (.bl n) H Q := ⟨rfl, by rw [show decide (V.bl m = V.bl n) = decide (m = n) by simp]; exact h⟩
theorem x_tst {R : Bool → Hp → Prop} (h : te σ H fun x H1 => ∃ k, x = .bl k ∧ R k H1) : tTest te σ H R := h
theorem x_tB {R : Bool → Hp → Prop} (h : te σ H fun x H1 => ∃ k, x = .bl k ∧ R k H1) : tB te σ H R := h
theorem x_bl {b : Bool} {R : Bool → Prop} (h : R b) : ∃ k, V.bl b = .bl k ∧ R k := ⟨b, rfl, h⟩
theorem x_ifNT {A B : Prop} (h : B) : if (!true) = true then A else B := h
theorem x_ifNF {A B : Prop} (h : A) : if (!false) = true then A else B := h
theorem x_yes {R : Bool → Hp → Prop} (h : R true H) : tYes σ H R := h
theorem x_ifTT {A B : Prop} (h : A) : if true = true then A else B := by rw [if_pos rfl]; exact h
theorem x_ifFF {A B : Prop} (h : B) : if false = true then A else B := by rw [if_neg Bool.false_ne_true]; exact h
theorem x_bnot {b : Bool} {R : Bool → Prop} (h : R (!b)) : ∃ k, V.bl (!b) = .bl k ∧ R k := ⟨_, rfl, h⟩
theorem x_and {R : Bool → Hp → Prop} (h : tt σ H fun c H1 => if c = true then tt' σ H1 R else R false H1) : tAnd tt tt' σ H R := h
theorem x_or {R : Bool → Hp → Prop} (h : tt σ H fun c H1 => if c = true then R true H1 else tt' σ H1 R) : tOr tt tt' σ H R := h
theorem x_not {R : Bool → Hp → Prop} (h : tt σ H fun c H1 => R (!c) H1) : tNot tt σ H R := h
theorem x_andV (h : ta σ H fun x H1 => ∃ c, x = .bl c ∧ if c = true then tb σ H1 Q else Q (.bl false) H1) : tAndV ta tb σ H Q := h
theorem x_orV (h : ta σ H fun x H1 => ∃ c, x = .bl c ∧ if c = true then Q (.bl true) H1 else tb σ H1 Q) : tOrV ta tb σ H Q := h
theorem x_notV (h : ta σ H fun x H1 => ∃ c, x = .bl c ∧ Q (.bl (!c)) H1) : tNotV ta σ H Q := h
theorem x_ifE (h : tt σ H fun c H1 => if c = true then ta σ H1 Q else tb σ H1 Q) : tIf tt ta tb σ H Q := h
theorem x_ch (h : ta σ H fun x H1 => tb σ H1 fun y H2 => r x y H2 fun z H3 => ∃ k, z = .bl k ∧ (if k = true then tc σ H3 fun w' H4 => r' y w' H4 Q else Q (.bl false) H3)) : tChain r r' ta tb tc σ H Q := h
theorem x_nil {R : List V → Hp → Prop} (h : R [] H) : tNil σ H R := h
theorem x_cons {tr : TA} {R : List V → Hp → Prop} (h : ta σ H fun x H1 => tr σ H1 fun xs H2 => R (x :: xs) H2) : tCons ta tr σ H R := h
theorem x_tup {ts : TA} (h : ts σ H fun xs H1 => rNewT xs H1 Q) : tTup ts σ H Q := h
theorem x_lst {ts : TA} (h : ts σ H fun xs H1 => rNewL xs H1 Q) : tLst ts σ H Q := h
theorem x_newL {xs : List V} (h : ∀ p H1, H p = none → Kp F0 H H1 → H1 p = some (.lst xs) → Q (.ref p) H1) (h1 : Nat.ble xs.length 1000 = true := by rfl) : rNewL xs H Q := ⟨Nat.le_trans (Nat.le_of_ble_eq_true h1) (by decide), fun p hp => h p _ hp (Kp.new hp) upd_same⟩
theorem x_newT {xs : List V} (h : ∀ p H1, H p = none → Kp F0 H H1 → H1 p = some (.tup xs) → Q (.ref p) H1) (h1 : Nat.ble xs.length 1000 = true := by rfl) : rNewT xs H Q := ⟨Nat.le_trans (Nat.le_of_ble_eq_true h1) (by decide), fun p hp => h p _ hp (Kp.new hp) upd_same⟩
theorem x_cb {rr : List V → Hp → VK → Prop} {ts : TA} (h : ts σ H fun vs H1 => rr vs H1 Q) : tCB rr ts σ H Q := h
theorem x_callS {sp : Sp} {E : L2.St → XK} {ts : TA} (h : ts σ H fun vs H1 => sp vs H1 Q (E σ)) : tCallS sp E ts σ H Q := h
theorem x_gn {R : L2.St → Hp → Prop} (h : R (σ.set i (some v)) H) : gName i v σ H R := h
/-- a[i], o[i] = v -/
theorem x_ixL {xs : List V} {j : Int} (h : SqL K H p xs) (e : atI xs j = some v) (q : Q v H) : rIxL K (.ref p) (.int j) H Q := ⟨p, xs, j, v, rfl, rfl, h, e, q⟩
theorem x_ixT {xs : List V} {j : Int} (h : SqT K H p xs) (e : atI xs j = some v) (q : Q v H) : rIxT K (.ref p) (.int j) H Q := ⟨p, xs, j, v, rfl, rfl, h, e, q⟩
theorem x_sub {R : L2.St → Hp → Prop} {s : TSet} (h : ta σ H fun o H1 => tb σ H1 fun i H2 => s o i v H2 fun H3 => R σ H3) : gSub ta tb s v σ H R := h
theorem x_setL {xs : List V} {k : Int} {j : Nat} {R : Hp → Prop} (h : H p = some (.lst xs)) (e : ixN xs.length k = some j) (q : R (upd H p (.lst (xs.set j v)))) : rSetL (.ref p) (.int k) v H R := ⟨p, xs, k, j, rfl, rfl, h, e, q⟩
end
/-- len(xs) -/
def rLenQ (K : PySem.W.Frag) : List V → Hp → VK → Prop := fun xs H Q => ∃ p ys, xs = [.ref p] ∧ (SqL K H p ys ∨ SqT K H p ys) ∧ Q (.int ys.length) H
theorem c_len {X : Cx} : CallR X (.builtin "len") (rLenQ X.K) := call_len_seq
theorem x_lenL {K : PySem.W.Frag} {H : Hp} {Q : VK} {p : Addr} {ys : List V} (h : SqL K H p ys) (q : Q (.int ys.length) H) : rLenQ K [.ref p] H Q := ⟨p, ys, rfl, .inl h, q⟩
theorem x_lenT {K : PySem.W.Frag} {H : Hp} {Q : VK} {p : Addr} {ys : List V} (h : SqT K H p ys) (q : Q (.int ys.length) H) : rLenQ K [.ref p] H Q := ⟨p, ys, rfl, .inr h, q⟩
/-- int(n), int(flag) -/
def rIntQ : List V → Hp → VK → Prop := fun xs H Q => (∃ i, xs = [.int i] ∧ Q (.int i) H) ∨ ∃ k, xs = [.bl k] ∧ Q (.int (if k then 1 else 0)) H
theorem c_int {X : Cx} : CallR X (.type "int") rIntQ := call_int1
theorem x_intI {H : Hp} {Q : VK} {i : Int} (q : Q (.int i) H) : rIntQ [.int i] H Q := .inl ⟨i, rfl, q⟩
theorem x_intB {H : Hp} {Q : VK} {k : Bool} (q : Q (.int (if k then 1 else 0)) H) : rIntQ [.bl k] H Q := .inr ⟨k, rfl, q⟩
theorem ite_dec {p : Prop} [Decidable p] {A B : Prop} (h1 : p → A) (h2 : ¬ p → B) : if decide p = true then A else B := by
  by_cases h : p
  · rw [if_pos (decide_eq_true h)]; exact h1 h
  · rw [if_neg (by simpa using h)]; exact h2 h
theorem ite_ndec {p : Prop} [Decidable p] {A B : Prop} (h1 : ¬ p → A) (h2 : p → B) : if (!decide p) = true then A else B := by
  by_cases h : p
  · rw [if_neg (by simp [h])]; exact h2 h
  · rw [if_pos (by simp [h])]; exact h1 h
theorem ite_bool {b : Bool} {A B : Prop} (h1 : b = true → A) (h2 : b = false → B) : if b = true then A else B := by
  cases b
  · rw [if_neg Bool.false_ne_true]; exact h2 rfl
  · rw [if_pos rfl]; exact h1 rfl
/-- an item by its place -/
theorem atI_at {α : Type} {xs : List α} {j : Int} {v : α} (k : Nat) (e : j = (k : Int)) (h : xs[k]? = some v) : atI xs j = some v := by subst e; exact atI_nat h
theorem ixN_at {n : Nat} {j : Int} (k : Nat) (e : j = (k : Int)) (h : k < n) : ixN n j = some k := by
  subst e; unfold ixN
  rw [if_pos (by omega), if_pos (by omega)]; rfl
theorem fdiv_ok {a n : Int} (h0 : 0 < n) (h1 : n < 2 ^ 64) : CDivW a n := wide_div (b := 64) h0 (by omega) (by decide) (by decide)

/-! ### loops -/
/-- J walks xs while G holds -/
structure Wk (J : It) (G : Hp → Prop) (xs : List V) : Prop where
  go : ∀ i H, i < xs.length → G H → J.go i H
  yld : ∀ i H x H', i < xs.length → G H → J.yld i H x H' → H = H' ∧ xs[i]? = some x
  stop : ∀ H, G H → J.stop xs.length H
theorem Wk.list {K : PySem.W.Frag} {a : Addr} {xs : List V} : Wk (Itl K a) (fun H => SqL K H a xs) xs where
  go := fun i H h g => ⟨xs, xs[i], g, by simp [h]⟩
  yld := fun i H x H' _ g y => ⟨y.1.symm, y.2 xs g⟩
  stop := fun H g => ⟨xs, g, Nat.le_refl _⟩
theorem Wk.tup {K : PySem.W.Frag} {a : Addr} {xs : List V} : Wk (Itt K a) (fun H => SqT K H a xs) xs where
  go := fun i H h g => ⟨xs, xs[i], g, by simp [h]⟩
  yld := fun i H x H' _ g y => ⟨y.1.symm, y.2 xs g⟩
  stop := fun H g => ⟨xs, g, Nat.le_refl _⟩
def rgl (lo : Int) (n : Nat) : List V := (List.range n).map fun i => V.int (lo + (i : Nat))
theorem rgl_len {lo : Int} {n : Nat} : (rgl lo n).length = n := by unfold rgl; simp
theorem rgl_at {lo : Int} {n i : Nat} {x : V} (h : (rgl lo n)[i]? = some x) : i < n ∧ x = .int (lo + (i : Nat)) := by
  unfold rgl at h
  rw [List.getElem?_map] at h
  by_cases hi : i < n
  · rw [List.getElem?_range hi] at h
    exact ⟨hi, (Option.some.inj h).symm⟩
  · rw [List.getElem?_eq_none (by simpa using hi)] at h
    cases h
theorem Wk.rng {lo : Int} {n : Nat} : Wk (Itr lo n) (fun _ => True) (rgl lo n) where
  go := fun i H h _ => by rw [rgl_len] at h; exact h
  yld := fun i H x H' h _ y => by
    rw [rgl_len] at h
    refine ⟨y.1.symm, ?_⟩
    unfold rgl
    rw [List.getElem?_map, List.getElem?_range h, y.2]; rfl
  stop := fun H _ => by show n ≤ _; rw [rgl_len]; exact Nat.le_refl _
theorem wfor {J : It} {G : Hp → Prop} {xs : List V} {g : TG} {tb : TS} {D : Ends} {σ : L2.St} {H : Hp} (W : Wk J G xs) (Pv : Nat → L2.St → Hp → Prop) (h0 : Pv 0 σ H) (hG : ∀ i σ H, Pv i σ H → G H)
    (hs : ∀ i x σ H, xs[i]? = some x → Pv i σ H → g x σ H fun σ2 H2 => tb { D with nx := Pv (i + 1), ct := Pv (i + 1), bk := D.nx } σ2 H2) (hd : ∀ σ H, Pv xs.length σ H → D.nx σ H) :
    ∃ W : Nat → Nat → L2.St → Hp → Prop, (∃ m, W 0 m σ H) ∧ ∀ i m σ H, W i m σ H →
      (J.stop i H ∧ D.nx σ H) ∨ (J.go i H ∧ ∃ N : L2.St → Hp → Prop, (∀ σ' H', N σ' H' → ∃ m', m' < m ∧ W (i + 1) m' σ' H') ∧ ∀ x H', J.yld i H x H' → g x σ H' fun σ2 H2 => tb { D with nx := N, ct := N, bk := D.nx } σ2 H2) := by
  refine ⟨fun i m σ H => m = xs.length - i ∧ i ≤ xs.length ∧ Pv i σ H, ⟨_, rfl, Nat.zero_le _, h0⟩, ?_⟩
  rintro i m σ H ⟨rfl, hi, p⟩
  by_cases hlt : i < xs.length
  · refine .inr ⟨W.go i H hlt (hG _ _ _ p), Pv (i + 1), fun σ' H' p' => ⟨xs.length - (i + 1), by omega, rfl, hlt, p'⟩, fun x H' y => ?_⟩
    obtain ⟨rfl, e⟩ := W.yld i H x H' hlt (hG _ _ _ p) y
    exact hs i x σ _ e p
  · obtain rfl : i = xs.length := by omega
    exact .inl ⟨W.stop H (hG _ _ _ p), hd σ H p⟩
/-- a comprehension: F what its turns may change, S what stays true of the heap, Pv of the list so far -/
theorem wlc {J : It} {G : Hp → Prop} {xs : List V} {g : TG} {tt : TT} {te : TE} {vs : List Nat} {σ : L2.St} {H0 : Hp} {Qd : Addr → Hp → Prop} (W : Wk J G xs) (F : Addr → Prop) (S : Hp → Prop) (Pv : Nat → List V → Prop)
    (hF : ∀ b, F b → H0 b ≠ none) (hz : xs.length ≤ 100000) (hG : ∀ H', S H' → Kp F H0 H' → G H') (h0 : Pv 0 []) (hS : S H0) (hSt : ∀ D, H0 D = none → ∀ H' o, (∀ u, H' D = some u → ¬ Fix u) → S H' → S (upd H' D o))
    (hs : ∀ i x acc H' (R : V → Hp → Prop) (R0 : Hp → Prop), xs[i]? = some x → Pv i acc → S H' → Kp F H0 H' → (∀ y H4, Kp F H' H4 → S H4 → Pv (i + 1) (acc ++ [y]) → R y H4) → (∀ H4, Kp F H' H4 → S H4 → Pv (i + 1) acc → R0 H4) →
      g x (wipe σ vs) H' fun σ2 H2 => wipe σ2 vs = wipe σ vs ∧ tt σ2 H2 fun b H3 => if b = true then te σ2 H3 R else R0 H3)
    (hd : ∀ D H' acc, H0 D = none → H' D = some (.lst acc) → Pv xs.length acc → S H' → Kp F H0 H' → Qd D H') :
    ∀ D, H0 D = none → ∃ W : Nat → Nat → Hp → Prop, (∃ m, W 0 m (upd H0 D (.lst []))) ∧ ∀ i m H, W i m H →
      (J.stop i H ∧ Qd D H) ∨ (J.go i H ∧ ∃ Nx : Hp → Prop, (∀ H', Nx H' → ∃ m', m' < m ∧ W (i + 1) m' H') ∧ ∀ x H', J.yld i H x H' → g x (wipe σ vs) H' fun σ2 H2 => wipe σ2 vs = wipe σ vs ∧ tt σ2 H2 fun b H3 =>
        if b = true then te σ2 H3 fun y H4 => ∃ acc, H4 D = some (.lst acc) ∧ acc.length < sizeLine ∧ Nx (upd H4 D (.lst (acc ++ [y]))) else Nx H3) := by
  intro D hD
  have nFD : ¬ F D := fun z => hF D z hD
  refine ⟨fun i m H' => m = xs.length - i ∧ i ≤ xs.length ∧ ∃ acc, H' D = some (.lst acc) ∧ acc.length ≤ i ∧ Pv i acc ∧ S H' ∧ Kp F H0 H',
    ⟨_, rfl, Nat.zero_le _, [], upd_same, Nat.le_refl _, h0, hSt D hD _ _ (fun u z => by rw [hD] at z; cases z) hS, (Kp.new hD).mono fun b z => z.elim⟩, ?_⟩
  rintro i m H ⟨rfl, hi, acc, hacc, hl, p, hSH, kp⟩
  by_cases hlt : i < xs.length
  · refine .inr ⟨W.go i H hlt (hG _ hSH kp), _, fun H' z => ⟨xs.length - (i + 1), by omega, z⟩, fun x H' y => ?_⟩
    obtain ⟨rfl, e⟩ := W.yld i H x H' hlt (hG _ hSH kp) y
    refine hs i x acc _ _ _ e p hSH kp (fun y H4 k4 s4 p4 => ?_) (fun H4 k4 s4 p4 => ?_)
    · refine ⟨acc, k4.get hacc nFD, Nat.lt_of_le_of_lt (Nat.le_trans hl (Nat.le_trans hi hz)) (by decide), rfl, hlt, acc ++ [y], upd_same, by rw [List.length_append, List.length_singleton]; omega, p4, hSt D hD _ _ (fun u z => by rw [k4.get hacc nFD] at z; cases z; exact id) s4, ?_⟩
      intro b o hb n
      rw [upd_ne (ne_of_none hb hD)]
      exact k4 b o (kp b o hb n) n
    · exact ⟨rfl, hlt, acc, k4.get hacc nFD, by omega, p4, s4, fun b o hb n => k4 b o (kp b o hb n) n⟩
  · obtain rfl : i = xs.length := by omega
    exact .inl ⟨W.stop H (hG _ hSH kp), hd D H acc hD hacc p hSH kp⟩
/-- a comprehension that changes nothing and keeps all: the list ys comes -/
theorem wlcP {J : It} {G : Hp → Prop} {xs ys : List V} {g : TG} {te : TE} {vs : List Nat} {σ : L2.St} {H0 : Hp} {Qd : Addr → Hp → Prop} (W : Wk J G xs) (hl : ys.length = xs.length) (hz : xs.length ≤ 100000) (hG : ∀ H', Kp F0 H0 H' → G H')
    (hs : ∀ (i : Nat) x y H' (R : V → Hp → Prop), xs[i]? = some x → ys[i]? = some y → Kp F0 H0 H' → (∀ H4, Kp F0 H' H4 → R y H4) → g x (wipe σ vs) H' fun σ2 H2 => wipe σ2 vs = wipe σ vs ∧ te σ2 H2 R)
    (hd : ∀ D H', H0 D = none → Kp F0 H0 H' → H' D = some (.lst ys) → Qd D H') :
    ∀ D, H0 D = none → ∃ W : Nat → Nat → Hp → Prop, (∃ m, W 0 m (upd H0 D (.lst []))) ∧ ∀ i m H, W i m H →
      (J.stop i H ∧ Qd D H) ∨ (J.go i H ∧ ∃ Nx : Hp → Prop, (∀ H', Nx H' → ∃ m', m' < m ∧ W (i + 1) m' H') ∧ ∀ x H', J.yld i H x H' → g x (wipe σ vs) H' fun σ2 H2 => wipe σ2 vs = wipe σ vs ∧ tYes σ2 H2 fun b H3 =>
        if b = true then te σ2 H3 fun y H4 => ∃ acc, H4 D = some (.lst acc) ∧ acc.length < sizeLine ∧ Nx (upd H4 D (.lst (acc ++ [y]))) else Nx H3) := by
  refine wlc W F0 (fun _ => True) (fun i acc => acc = ys.take i) (fun b z => z.elim) hz (fun H' _ k => hG H' k) rfl trivial (fun _ _ _ _ _ _ => trivial) (fun i x acc H' R R0 e p _ kp h1 _ => ?_) (fun D H' acc hD hacc p _ kp => hd D H' hD kp (by rw [hacc, p, ← hl, List.take_length]))
  have hi : i < ys.length := by rw [hl]; exact (List.getElem?_eq_some_iff.mp e).1
  refine hs i x ys[i] H' R e (by simp [hi]) kp fun H4 k4 => h1 _ _ k4 trivial ?_
  rw [p, List.take_succ, List.getElem?_eq_getElem hi]; rfl

section
variable {K : PySem.W.Frag} {σ : L2.St} {H : Hp} {Q : VK} {D : Ends} {ta tb tc te : TE} {t u : TS} {tt tt' : TT} {x y z v : V} {i : Nat} {g : TG} {a p : Addr} {wi : TI} {ts : TA} {R : It → Hp → Prop}
theorem x_for (h : wi σ H fun J H1 => ∃ W : Nat → Nat → L2.St → Hp → Prop, (∃ m, W 0 m σ H1) ∧ ∀ i m σ H, W i m σ H →
    (J.stop i H ∧ D.nx σ H) ∨ (J.go i H ∧ ∃ N : L2.St → Hp → Prop, (∀ σ' H', N σ' H' → ∃ m', m' < m ∧ W (i + 1) m' σ' H') ∧ ∀ x H', J.yld i H x H' → g x σ H' fun σ2 H2 => t { D with nx := N, ct := N, bk := D.nx } σ2 H2)) : tFor wi g t D σ H := h
theorem x_lc {vs : List Nat} (h : wi σ H fun J H1 => ∀ D, H1 D = none → ∃ W : Nat → Nat → Hp → Prop, (∃ m, W 0 m (upd H1 D (.lst []))) ∧ ∀ i m H, W i m H →
    (J.stop i H ∧ Q (.ref D) H) ∨ (J.go i H ∧ ∃ Nx : Hp → Prop, (∀ H', Nx H' → ∃ m', m' < m ∧ W (i + 1) m' H') ∧ ∀ x H', J.yld i H x H' → g x (wipe σ vs) H' fun σ2 H2 => wipe σ2 vs = wipe σ vs ∧ tt σ2 H2 fun b H3 =>
      if b = true then te σ2 H3 fun y H4 => ∃ acc, H4 D = some (.lst acc) ∧ acc.length < sizeLine ∧ Nx (upd H4 D (.lst (acc ++ [y]))) else Nx H3)) : tLc wi g tt te vs σ H Q := h
theorem x_rng1 (h : ts σ H fun vs H1 => ∃ j : Int, vs = [.int j] ∧ -(2 ^ 62) ≤ j ∧ j < 2 ^ 62 ∧ R (Itr 0 j.toNat) H1) : iRng1 ts σ H R := h
theorem x_rg1 {S : Int → Prop} {n : Int} (h1 : -(2 ^ 62) ≤ n) (h2 : n < 2 ^ 62) (h : S n) : ∃ j : Int, [V.int n] = [.int j] ∧ -(2 ^ 62) ≤ j ∧ j < 2 ^ 62 ∧ S j := ⟨n, rfl, h1, h2, h⟩
theorem x_rng2 (h : ts σ H fun vs H1 => ∃ i j : Int, vs = [.int i, .int j] ∧ (-(2 ^ 62) ≤ i ∧ i < 2 ^ 62 ∧ -(2 ^ 62) ≤ j ∧ j < 2 ^ 62) ∧ R (Itr i (j - i).toNat) H1) : iRng2 ts σ H R := h
theorem x_rg2 {S : Int → Int → Prop} {m n : Int} (h1 : -(2 ^ 62) ≤ m ∧ m < 2 ^ 62 ∧ -(2 ^ 62) ≤ n ∧ n < 2 ^ 62) (h : S m n) : ∃ i j : Int, [V.int m, V.int n] = [.int i, .int j] ∧ (-(2 ^ 62) ≤ i ∧ i < 2 ^ 62 ∧ -(2 ^ 62) ≤ j ∧ j < 2 ^ 62) ∧ S i j := ⟨m, n, rfl, h1, h⟩
theorem x_iL (h : te σ H fun x H1 => ∃ a, x = .ref a ∧ (∃ xs, SqL K H1 a xs) ∧ R (Itl K a) H1) : iList K te σ H R := h
theorem x_iL1 {xs : List V} {S : Addr → Prop} (h : SqL K H a xs) (q : S a) : ∃ b, V.ref a = .ref b ∧ (∃ xs, SqL K H b xs) ∧ S b := ⟨a, rfl, ⟨xs, h⟩, q⟩
theorem x_iT (h : te σ H fun x H1 => ∃ a, x = .ref a ∧ (∃ xs, SqT K H1 a xs) ∧ R (Itt K a) H1) : iTup K te σ H R := h
theorem x_iT1 {xs : List V} {S : Addr → Prop} (h : SqT K H a xs) (q : S a) : ∃ b, V.ref a = .ref b ∧ (∃ xs, SqT K H b xs) ∧ S b := ⟨a, rfl, ⟨xs, h⟩, q⟩
theorem x_sum {ns : List Int} (h : SqL K H a (ns.map V.int)) (q : Q (.int ns.sum) H) : rSum K [.ref a] H Q := ⟨a, ns, rfl, h, q⟩
theorem x_max {ns : List Int} (h : SqL K H a (ns.map V.int)) (h0 : 0 < ns.length) (q : ∀ m, m ∈ ns → (∀ y, y ∈ ns → y ≤ m) → Q (.int m) H) : rMax K [.ref a] H Q := ⟨a, ns, rfl, h, h0, q⟩
theorem x_min {ns : List Int} (h : SqL K H a (ns.map V.int)) (h0 : 0 < ns.length) (q : ∀ m, m ∈ ns → (∀ y, y ∈ ns → m ≤ y) → Q (.int m) H) : rMin K [.ref a] H Q := ⟨a, ns, rfl, h, h0, q⟩
end
/-- abs, max, min of two -/
def rAbsQ : List V → Hp → VK → Prop := fun xs H Q => ∃ i, xs = [.int i] ∧ Q (.int (if i < 0 then -i else i)) H
theorem c_abs {X : Cx} : CallR X (.builtin "abs") rAbsQ := call_abs
theorem x_abs {H : Hp} {Q : VK} {i : Int} (q : Q (.int (if i < 0 then -i else i)) H) : rAbsQ [.int i] H Q := ⟨i, rfl, q⟩
def rMax2Q : List V → Hp → VK → Prop := fun xs H Q => ∃ i j, xs = [.int i, .int j] ∧ Q (.int (if j > i then j else i)) H
theorem c_max2 {X : Cx} (hc : X.calm = true) : CallR X (.builtin "max") rMax2Q := call_max2 hc
theorem x_max2 {H : Hp} {Q : VK} {i j : Int} (q : Q (.int (max i j)) H) : rMax2Q [.int i, .int j] H Q := ⟨i, j, rfl, by rw [show (if j > i then j else i) = max i j by split <;> omega]; exact q⟩
def rMin2Q : List V → Hp → VK → Prop := fun xs H Q => ∃ i j, xs = [.int i, .int j] ∧ Q (.int (if j < i then j else i)) H
theorem c_min2 {X : Cx} (hc : X.calm = true) : CallR X (.builtin "min") rMin2Q := call_min2 hc
theorem x_min2 {H : Hp} {Q : VK} {i j : Int} (q : Q (.int (min i j)) H) : rMin2Q [.int i, .int j] H Q := ⟨i, j, rfl, by rw [show (if j < i then j else i) = min i j by split <;> omega]; exact q⟩
/-- list(xs), tuple(xs) -/
def rLstQ (K : PySem.W.Frag) : List V → Hp → VK → Prop := fun xs H Q => ∃ p ys, xs = [.ref p] ∧ (SqL K H p ys ∨ SqT K H p ys) ∧ ∀ l, H l = none → Q (.ref l) (upd H l (.lst ys))
theorem c_list {X : Cx} : CallR X (.type "list") (rLstQ X.K) := call_list_of
theorem x_lstL {K : PySem.W.Frag} {H : Hp} {Q : VK} {p : Addr} {ys : List V} (h : SqL K H p ys) (q : ∀ l H1, H l = none → Kp F0 H H1 → H1 l = some (.lst ys) → Q (.ref l) H1) : rLstQ K [.ref p] H Q := ⟨p, ys, rfl, .inl h, fun l hl => q l _ hl (Kp.new hl) upd_same⟩
theorem x_lstT {K : PySem.W.Frag} {H : Hp} {Q : VK} {p : Addr} {ys : List V} (h : SqT K H p ys) (q : ∀ l H1, H l = none → Kp F0 H H1 → H1 l = some (.lst ys) → Q (.ref l) H1) : rLstQ K [.ref p] H Q := ⟨p, ys, rfl, .inr h, fun l hl => q l _ hl (Kp.new hl) upd_same⟩
def rTupQ (K : PySem.W.Frag) : List V → Hp → VK → Prop := fun xs H Q => ∃ p ys, xs = [.ref p] ∧ ((SqL K H p ys ∧ ∀ l, H l = none → Q (.ref l) (upd H l (.tup ys))) ∨ (SqT K H p ys ∧ Q (.ref p) H))
theorem c_tuple {X : Cx} : CallR X (.type "tuple") (rTupQ X.K) := call_tuple_of
theorem x_tupL {K : PySem.W.Frag} {H : Hp} {Q : VK} {p : Addr} {ys : List V} (h : SqL K H p ys) (q : ∀ l H1, H l = none → Kp F0 H H1 → H1 l = some (.tup ys) → Q (.ref l) H1) : rTupQ K [.ref p] H Q := ⟨p, ys, rfl, .inl ⟨h, fun l hl => q l _ hl (Kp.new hl) upd_same⟩⟩
theorem x_tupT {K : PySem.W.Frag} {H : Hp} {Q : VK} {p : Addr} {ys : List V} (h : SqT K H p ys) (q : Q (.ref p) H) : rTupQ K [.ref p] H Q := ⟨p, ys, rfl, .inr ⟨h, q⟩⟩
/-- isinstance of an int -/
theorem x_isi {K : PySem.W.Frag} {H : Hp} {Q : VK} {i : Int} {T : String} {b : Bool} (hk : PySem.W.kitOne K (.type "int") (.type T) = some b) (q : Q (.bl b) H) : rIsi K [.int i, .ty T] H Q := ⟨_, _, _, _, b, rfl, .ty T, .base (.int i), hk, q⟩
theorem x_isiI {K : PySem.W.Frag} {H : Hp} {Q : VK} {i : Int} (q : Q (.bl true) H) : rIsi K [.int i, .ty "int"] H Q := x_isi (kit_ty (by decide +kernel)) q
theorem x_isiB {K : PySem.W.Frag} {H : Hp} {Q : VK} {i : Int} (q : Q (.bl false) H) : rIsi K [.int i, .ty "bool"] H Q := x_isi (kit_ty (by decide +kernel)) q
/-- bytes of a slice: a new list -/
theorem x_sl {σ : L2.St} {H : Hp} {Q : VK} {te : TE} {tl th : TO} {r : V → Option Int → Option Int → Hp → VK → Prop} (h : te σ H fun x H1 => tl σ H1 fun l H2 => th σ H2 fun u H3 => r x l u H3 Q) : L2.tSl r te tl th σ H Q := h
theorem x_part {σ : L2.St} {H : Hp} {Q : Option Int → Hp → Prop} {te : TE} (h : te σ H fun x H1 => ∃ i, x = .int i ∧ Q (some i) H1) : tPart te σ H Q := h
theorem x_part1 {S : Int → Prop} {i : Int} (h : S i) : ∃ j, V.int i = .int j ∧ S j := ⟨i, rfl, h⟩
theorem x_nopart {σ : L2.St} {H : Hp} {Q : Option Int → Hp → Prop} (h : Q none H) : tNoPart σ H Q := h
theorem x_slL {K : PySem.W.Frag} {H : Hp} {Q : VK} {p : Addr} {xs : List V} {lo hi : Option Int} (h : SqL K H p xs) (q : ∀ l H1, H l = none → Kp F0 H H1 → H1 l = some (.lst (cutV xs lo hi)) → Q (.ref l) H1) : rSlL K (.ref p) lo hi H Q := ⟨p, xs, rfl, h, fun l hl => q l _ hl (Kp.new hl) upd_same⟩
theorem x_slT {K : PySem.W.Frag} {H : Hp} {Q : VK} {p : Addr} {xs : List V} {lo hi : Option Int} (h : SqT K H p xs) (q : ∀ l H1, Kp F0 H H1 → SqT K H1 l (cutV xs lo hi) → Q (.ref l) H1) : rSlA K (.ref p) lo hi H Q :=
  ⟨p, xs, rfl, h, fun e => q p H (Kp.refl _) (by rw [show cutV xs lo hi = xs by unfold cutV; rw [e.1, e.2]; simp]; exact h), fun _ l hl => q l _ (Kp.new hl) (SqT.of upd_same)⟩
theorem x_catT {K : PySem.W.Frag} {H : Hp} {Q : VK} {a b : Addr} {xs ys : List V} (ha : SqT K H a xs) (hb : SqT K H b ys) (hz : xs.length + ys.length ≤ 100000) (q : ∀ l H1, Kp F0 H H1 → SqT K H1 l (xs ++ ys) → Q (.ref l) H1) : rCatA K (.ref a) (.ref b) H Q :=
  ⟨a, b, xs, ys, rfl, rfl, ha, hb, Nat.le_trans hz (by decide), fun e => q b H (Kp.refl _) (by rw [e]; exact hb), fun _ e => q a H (Kp.refl _) (by rw [e, List.append_nil]; exact ha), fun _ _ l hl => q l _ (Kp.new hl) (SqT.of upd_same)⟩
theorem x_catL {H : Hp} {Q : VK} {a b : Addr} {xs ys : List V} (ha : H a = some (.lst xs)) (hb : H b = some (.lst ys)) (hz : xs.length + ys.length ≤ sizeLine) (q : ∀ l H1, H l = none → Kp F0 H H1 → H1 l = some (.lst (xs ++ ys)) → Q (.ref l) H1) : rCat (.ref a) (.ref b) H Q :=
  ⟨a, b, xs, ys, rfl, rfl, ha, hb, hz, fun l hl => q l _ hl (Kp.new hl) upd_same⟩
/-- data compared -/
theorem x_eqD {K : PySem.W.Frag} {H : Hp} {Q : VK} {x y : V} {d e : PyData} (hx : Dp K H x d) (hy : Dp K H y e) (s1 : SeqAt.shaped d = true) (s2 : SeqAt.shaped e = true) (q : Q (.bl (PyData.eqv d e)) H) : rEqD K x y H Q := ⟨d, e, hx, hy, s1, s2, q⟩
theorem x_neD {K : PySem.W.Frag} {H : Hp} {Q : VK} {x y : V} {d e : PyData} (hx : Dp K H x d) (hy : Dp K H y e) (s1 : SeqAt.shaped d = true) (s2 : SeqAt.shaped e = true) (q : Q (.bl (!PyData.eqv d e)) H) : rNeD K x y H Q := ⟨d, e, hx, hy, s1, s2, q⟩

/-! ### data of ints and texts: equal as data, equal -/
mutual
def nb : PyData → Bool
  | .none => true
  | .bool _ => false
  | .int _ => true
  | .str _ => true
  | .list xs => nbAll xs
  | .tuple xs => nbAll xs
  | .dict _ => false
def nbAll : List PyData → Bool
  | [] => true
  | x :: xs => nb x && nbAll xs
end
mutual
theorem eqv_nb : ∀ d e : PyData, nb d = true → nb e = true → (PyData.eqv d e = true ↔ d = e)
  | .none, e, _, h => by cases e <;> first | (simp [nb] at h; done) | simp [PyData.eqv]
  | .int i, e, _, h => by cases e <;> first | (simp [nb] at h; done) | simp [PyData.eqv]
  | .str i, e, _, h => by cases e <;> first | (simp [nb] at h; done) | simp [PyData.eqv]
  | .list xs, e, g, h => by
    cases e with
    | list ys => rw [show PyData.eqv (.list xs) (.list ys) = PyData.eqvAll xs ys by simp [PyData.eqv], eqvAll_nb xs ys (by simpa [nb] using g) (by simpa [nb] using h)]; simp
    | bool b => simp [nb] at h
    | dict b => simp [nb] at h
    | _ => simp [PyData.eqv]
  | .tuple xs, e, g, h => by
    cases e with
    | tuple ys => rw [show PyData.eqv (.tuple xs) (.tuple ys) = PyData.eqvAll xs ys by simp [PyData.eqv], eqvAll_nb xs ys (by simpa [nb] using g) (by simpa [nb] using h)]; simp
    | bool b => simp [nb] at h
    | dict b => simp [nb] at h
    | _ => simp [PyData.eqv]
  | .bool _, _, g, _ => by simp [nb] at g
  | .dict _, _, g, _ => by simp [nb] at g
theorem eqvAll_nb : ∀ xs ys : List PyData, nbAll xs = true → nbAll ys = true → (PyData.eqvAll xs ys = true ↔ xs = ys)
  | [], [], _, _ => by simp [PyData.eqvAll]
  | [], _ :: _, _, _ => by simp [PyData.eqvAll]
  | _ :: _, [], _, _ => by simp [PyData.eqvAll]
  | x :: xs, y :: ys, g, h => by
    simp only [nbAll, Bool.and_eq_true] at g h
    simp only [PyData.eqvAll, Bool.and_eq_true, List.cons.injEq]
    rw [eqv_nb x y g.1 h.1, eqvAll_nb xs ys g.2 h.2]
end
theorem eqv_dec {d e : PyData} (h1 : nb d = true) (h2 : nb e = true) {p : Prop} [Decidable p] (h : d = e ↔ p) : PyData.eqv d e = decide p := by
  rw [Bool.eq_iff_iff, eqv_nb d e h1 h2, h, decide_eq_true_iff]
/-- data whose rows are shaped -/
def Sh (n : Nat) (d : PyData) : Prop := d.canLay0 = true ∧ d.depth ≤ n ∧ nb d = true
theorem Sh.shaped {n : Nat} {d : PyData} (h : Sh n d) (hn : n ≤ 64 := by decide) : SeqAt.shaped d = true := by
  unfold SeqAt.shaped
  rw [h.1, decide_eq_true (Nat.le_trans h.2.1 hn)]; rfl
theorem Sh.int (i : Int) : Sh 0 (.int i) := ⟨by simp [PyData.canLay0], by simp [PyData.depth], by simp [nb]⟩
theorem sh_all {n : Nat} : ∀ {ds : List PyData}, (∀ d ∈ ds, Sh n d) → PyData.canLayAll0 ds = true ∧ PyData.depthAll ds ≤ n ∧ nbAll ds = true
  | [], _ => ⟨by simp [PyData.canLayAll0], by simp [PyData.depthAll], by simp [nbAll]⟩
  | d :: ds, h => by
    have h1 := h d (by simp)
    have h2 := sh_all (ds := ds) fun x hx => h x (List.mem_cons_of_mem _ hx)
    exact ⟨by simp [PyData.canLayAll0, h1.1, h2.1], by simp only [PyData.depthAll]; have := h1.2.1; have := h2.2.1; omega, by simp [nbAll, h1.2.2, h2.2.2]⟩
theorem Sh.list {n : Nat} {ds : List PyData} (h : ∀ d ∈ ds, Sh n d) : Sh (n + 1) (.list ds) := by
  have q := sh_all h
  exact ⟨by simp [PyData.canLay0, q.1], by simp only [PyData.depth]; have := q.2.1; omega, by simp [nb, q.2.2]⟩
theorem Sh.tuple {n : Nat} {ds : List PyData} (h : ∀ d ∈ ds, Sh n d) : Sh (n + 1) (.tuple ds) := by
  have q := sh_all h
  exact ⟨by simp [PyData.canLay0, q.1], by simp only [PyData.depth]; have := q.2.1; omega, by simp [nb, q.2.2]⟩
theorem sh_ints (ns : List Int) : ∀ d ∈ ns.map PyData.int, Sh 0 d := fun d h => by
  obtain ⟨i, _, rfl⟩ := List.mem_map.mp h
  exact Sh.int i
theorem map_int_inj : ∀ {ns ms : List Int}, ns.map PyData.int = ms.map PyData.int ↔ ns = ms
  | [], [] => by simp
  | [], _ :: _ => by simp
  | _ :: _, [] => by simp
  | n :: ns, m :: ms => by simp [map_int_inj (ns := ns) (ms := ms)]
theorem dp_ints {K : PySem.W.Frag} {H : Hp} : ∀ ns : List Int, DpAll K H (ns.map V.int) (ns.map PyData.int)
  | [] => .nil
  | n :: ns => .cons (.int n) (dp_ints ns)
theorem x_eqLI {K : PySem.W.Frag} {H : Hp} {Q : VK} {a b : Addr} {ns ms : List Int} (ha : SqL K H a (ns.map V.int)) (hb : SqL K H b (ms.map V.int)) (q : Q (.bl (decide (ns = ms))) H) : rEqD K (.ref a) (.ref b) H Q :=
  x_eqD (.lst ha (dp_ints _)) (.lst hb (dp_ints _)) (Sh.list (sh_ints _)).shaped (Sh.list (sh_ints _)).shaped (by rw [eqv_dec (p := ns = ms) (Sh.list (sh_ints _)).2.2 (Sh.list (sh_ints _)).2.2 (by simp [map_int_inj])]; exact q)
theorem x_neLI {K : PySem.W.Frag} {H : Hp} {Q : VK} {a b : Addr} {ns ms : List Int} (ha : SqL K H a (ns.map V.int)) (hb : SqL K H b (ms.map V.int)) (q : Q (.bl (!decide (ns = ms))) H) : rNeD K (.ref a) (.ref b) H Q :=
  x_neD (.lst ha (dp_ints _)) (.lst hb (dp_ints _)) (Sh.list (sh_ints _)).shaped (Sh.list (sh_ints _)).shaped (by rw [eqv_dec (p := ns = ms) (Sh.list (sh_ints _)).2.2 (Sh.list (sh_ints _)).2.2 (by simp [map_int_inj])]; exact q)
theorem x_eqTI {K : PySem.W.Frag} {H : Hp} {Q : VK} {a b : Addr} {ns ms : List Int} (ha : SqT K H a (ns.map V.int)) (hb : SqT K H b (ms.map V.int)) (q : Q (.bl (decide (ns = ms))) H) : rEqD K (.ref a) (.ref b) H Q :=
  x_eqD (.tup ha (dp_ints _)) (.tup hb (dp_ints _)) (Sh.tuple (sh_ints _)).shaped (Sh.tuple (sh_ints _)).shaped (by rw [eqv_dec (p := ns = ms) (Sh.tuple (sh_ints _)).2.2 (Sh.tuple (sh_ints _)).2.2 (by simp [map_int_inj])]; exact q)
theorem x_neTI {K : PySem.W.Frag} {H : Hp} {Q : VK} {a b : Addr} {ns ms : List Int} (ha : SqT K H a (ns.map V.int)) (hb : SqT K H b (ms.map V.int)) (q : Q (.bl (!decide (ns = ms))) H) : rNeD K (.ref a) (.ref b) H Q :=
  x_neD (.tup ha (dp_ints _)) (.tup hb (dp_ints _)) (Sh.tuple (sh_ints _)).shaped (Sh.tuple (sh_ints _)).shaped (by rw [eqv_dec (p := ns = ms) (Sh.tuple (sh_ints _)).2.2 (Sh.tuple (sh_ints _)).2.2 (by simp [map_int_inj])]; exact q)

/-! ### rules with the written part named -/
section
variable {X : Cx} {K : PySem.W.Frag} {e o : Expr} {es : List Expr} {ta to te : TE} {f name : Str} {pos apos cpos : Pos} {t : TA} {T id : String} {r : V → List V → Hp → VK → Prop} {tg l : Expr} {gs : TGs}
theorem pe_fldK (hK : X.K = K) (he : PE X e ta) (hb : attributeBase e f X.env (eval e X.env) = eval e X.env := by rfl) : PE X (.Attribute e f pos) (tFld K ta f) := by subst hK; exact pe_fld he hb
theorem pe_kBM (hK : X.K = K) (h : PE X e (tBM X.K T r to t)) : PE X e (tBM K T r to t) := by subst hK; exact h
theorem pe_kBM0 (hK : X.K = K) (h : PE X e (tBM0 X.K T r to)) : PE X e (tBM0 K T r to) := by subst hK; exact h
theorem pg_kT {k : Nat} (hK : X.K = K) (h : PG X tg (gTup X.K k gs)) : PG X tg (gTup K k gs) := by subst hK; exact h
theorem pi_listK (hK : X.K = K) (h : PE X l te) : PI X tg l (iList K te) := by subst hK; exact pi_list h
theorem pi_tupK (hK : X.K = K) (h : PE X l te) : PI X tg l (iTup K te) := by subst hK; exact pi_tup h
end

/-- what every law promises: True -/
def sp_law (K : PySem.W.Frag) : Sp := fun vs H Q _ => ∃ (a : Addr) (ns : List Int), vs = [.ref a] ∧ Sc K H a ns ∧ ns.length ≤ 63 ∧ ∀ H', Q (.bl true) H'
theorem tup_K {K : PySem.W.Frag} {H : Hp} {a : Addr} {dd : Option Addr} {us : List Value} {n : Nat} {sl : Array (Option Value)} {xs : List V} (h : K.lookup a = some ⟨.type "tuple", dd, .seq us.toArray n, sl⟩) (r : Vals xs us) (z : us.length ≤ 1000 := by exact Nat.le_of_ble_eq_true rfl) : SqT K H a xs :=
  .inr ⟨_, us.toArray, n, h, rfl, rfl, Nat.le_trans (by simpa using z) (by decide : 1000 ≤ sizeLine), r⟩

/-! ### methods of lists, targets -/
section
variable {K : PySem.W.Frag} {σ : L2.St} {H : Hp} {Q : VK} {to te : TE} {ts : TA} {T : String} {r : V → List V → Hp → VK → Prop} {l b p a : Addr} {xs zs : List V} {y v : V}
theorem x_bm (h : to σ H fun x H1 => tyV K T x H1 ∧ ts σ H1 fun xs H2 => r x xs H2 Q) : tBM K T r to ts σ H Q := h
theorem x_bm0 (h : to σ H fun x H1 => tyV K T x H1 ∧ r x [] H1 Q) : tBM0 K T r to σ H Q := h
theorem x_ty {B : Prop} (h : H p = some (.lst xs)) (q : B) : tyV K "list" (.ref p) H ∧ B := ⟨.inl ⟨rfl, _, SqL.of h⟩, q⟩
theorem x_app (h : H l = some (.lst xs)) (hz : xs.length < 16777216) (q : ∀ H1, H1 l = some (.lst (xs ++ [y])) → Kp (F1 l) H H1 → Q .non H1) : rAppend (.ref l) [y] H Q :=
  ⟨l, xs, y, rfl, rfl, h, Nat.lt_of_lt_of_le hz (by decide), q _ upd_same (Kp.put h id)⟩
theorem x_ext (h : H l = some (.lst xs)) (hb : H b = some (.lst zs)) (hz : xs.length + zs.length ≤ 16777216) (q : ∀ H1, H1 l = some (.lst (xs ++ zs)) → Kp (F1 l) H H1 → Q .non H1) : rExtend (.ref l) [.ref b] H Q :=
  ⟨l, b, xs, zs, rfl, rfl, h, hb, Nat.le_trans hz (by decide), q _ upd_same (Kp.put h id)⟩
theorem x_all {bs : List Bool} (h : SqL K H a (bs.map V.bl)) (q : Q (.bl (bs.all id)) H) : rAll K [.ref a] H Q := ⟨a, bs, rfl, h, q⟩
theorem x_any {bs : List Bool} (h : SqL K H a (bs.map V.bl)) (q : Q (.bl (bs.any id)) H) : rAny K [.ref a] H Q := ⟨a, bs, rfl, h, q⟩
theorem x_gt {n : Nat} {g : TGs} {R : L2.St → Hp → Prop} (h : SqT K H a xs) (hn : xs.length = n) (q : g xs σ H R) : gTup K n g (.ref a) σ H R := ⟨a, xs, rfl, h, hn, q⟩
theorem x_gc {t : TG} {u : TGs} {R : L2.St → Hp → Prop} (q : t v σ H fun σ' H' => u xs σ' H' R) : gCons t u (v :: xs) σ H R := ⟨v, xs, rfl, q⟩
theorem x_g0 {R : L2.St → Hp → Prop} (q : R σ H) : gNil [] σ H R := ⟨rfl, q⟩
theorem x_isiT {S : String} {b : Bool} (h : SqT K H a xs) (ht : TyX K H (.ref a) (.type "tuple")) (hk : PySem.W.kitOne K (.type "tuple") (.type S) = some b) (q : Q (.bl b) H) : rIsi K [.ref a, .ty S] H Q := ⟨_, _, _, _, b, rfl, .ty S, ht, hk, q⟩
end
/-- n & (2 ^ k - 1) -/
def rAndM : R2 := fun x y H Q => ∃ (i : Int) (k : Nat), x = .int i ∧ y = .int (2 ^ k - 1) ∧ Q (.int (i % 2 ^ k)) H
theorem o_and {X : Cx} : OpR X (binaryOp .BitAnd) rAndM := op_andM
theorem x_and255 {H : Hp} {Q : VK} {i : Int} (q : Q (.int (i % 256)) H) : rAndM (.int i) (.int 255) H Q := ⟨i, 8, rfl, rfl, q⟩
/-! ### slices -/
theorem cut_to {a : List Int} {j : Int} (h0 : 0 ≤ j) (h1 : j ≤ a.length) : cutV (a.map V.int) none (some j) = (a.take j.toNat).map V.int := by
  obtain ⟨k, rfl⟩ := Int.eq_ofNat_of_zero_le h0
  unfold cutV
  rw [HT.sIx_none, HT.sIx_nat]
  simp only [List.drop_zero, Nat.sub_zero, List.length_map, List.map_take, Int.toNat_natCast]
  congr 1
  omega
theorem cut_from {a : List Int} {j : Int} (h0 : 0 ≤ j) (h1 : j ≤ a.length) : cutV (a.map V.int) (some j) none = (a.drop j.toNat).map V.int := by
  obtain ⟨k, rfl⟩ := Int.eq_ofNat_of_zero_le h0
  unfold cutV
  rw [HT.sIx_none, HT.sIx_nat]
  simp only [List.length_map, List.map_drop, Int.toNat_natCast]
  rw [show min k a.length = k by omega, List.take_of_length_le (by simp)]
theorem cut_mid {a : List Int} {i j : Int} (h0 : 0 ≤ i) (h1 : i ≤ j) : cutV (a.map V.int) (some i) (some j) = ((a.drop i.toNat).take (j - i).toNat).map V.int := by
  obtain ⟨m, rfl⟩ := Int.eq_ofNat_of_zero_le h0
  obtain ⟨n, rfl⟩ := Int.eq_ofNat_of_zero_le (Int.le_trans h0 h1)
  unfold cutV
  rw [HT.sIx_nat, HT.sIx_nat]
  simp only [List.length_map, List.map_take, List.map_drop, Int.toNat_natCast]
  have e : ((n : Int) - (m : Int)).toNat = n - m := by omega
  rw [e]
  by_cases q : m ≤ a.length
  · rw [show min m a.length = m by omega]
    by_cases q2 : n ≤ a.length
    · rw [show min n a.length = n by omega]
    · rw [show min n a.length = a.length by omega, List.take_of_length_le (by simp), List.take_of_length_le (by simp; omega)]
  · rw [List.drop_eq_nil_of_le (by simp; omega), List.drop_eq_nil_of_le (by simp; omega)]; simp

/-! ### exceptions of own classes, made without arguments -/
section
variable {X : Cx} {C : Addr} {bmB : List Value} {B newId initId : String} {x : Str} {p pos : Pos}
theorem pmk_own0 (F : ExcBaseFacts B newId initId bmB) (q : PySem.W.excIn X.K C bmB newId = true) (gC : X.mg x = some (.ref C)) (kC : PySem.W.keepIn X.K (.ref C) = true) (r : Raises X (.ref C)) (hg : Gl X x)
    (hdb : (x == ("__debug__" : Str)) = false := by decide) : PMk X (.Call (.Name x p) [] [] pos) (fun _ H Q => Q (.ref C) none H) := fun pins s σ H Q I h => by
  refine wpAny_Call_Name_kw (ld_glob I hg gC (PySem.W.callWith_K0 I.kIn kC ?_) hdb)
  obtain ⟨_, _, _, _, _, _, _, _, _, _, _, _, _, _, _, _, _, hC, hN, hi, T⟩ := exc_obj I.kIn q
  exact wpAny_call_exc_subT F T hC hN hi (fun _ _ hm => mk_of I hm r h (I.hok.gone hm.new)) (Nat.zero_le _)
end
/-- what the top tells of an own exception class -/
structure ExT (K : PySem.W.Frag) (mg : Str → Option Value) (x : Str) (C : Addr) : Prop where
  g : mg x = some (.ref C)
  x : PySem.W.excIn K C [.type "ValueError", .type "Exception", .type "BaseException", .type "object"] "ValueError.__new__" = true
  k : PySem.W.keepIn K (.ref C) = true
  b : PySem.W.subIn K (.ref C) (.type "BaseException") = some true
  t : PySem.W.typeIn K (.ref C) = some (.type "type")
  i : PySem.W.isClsIn K C = true
  s : PySem.W.subIn K (.ref C) (.ref C) = some true
section
variable {X : Cx} {C : Addr} {x : Str} {p pos : Pos}
theorem pmk_X (T : ExT X.K X.mg x C) (hg : Gl X x := by rfl) (hdb : (x == ("__debug__" : Str)) = false := by decide) : PMk X (.Call (.Name x p) [] [] pos) (fun _ H Q => Q (.ref C) none H) :=
  pmk_own0 PySem.F.excBase_ValueError T.x T.g T.k (raises_own T.b T.t) hg hdb
/-- what an own raising def lets out goes to its own wish -/
theorem passE {E : XK} {E1 : Value → Shared → Prop} (hs : X.stack = X.env :: X.outer) (hf : X.env.frame = some X.env.locals) (hex : X.ex = [])
    (hx : X.xe = fun e s' => wpAny (model X.prog X.w) X.A (leaving X.env e) (fun _ s'' => L2.CX X.prog X.w X.outer X.H_0 X.s_0 E e s'') E1 s') : ∀ σ, PassesAt (L2.CX X.prog X.w) X σ ((fun _ => E) σ) :=
  fun σ pins H s e s' I c => passes_call (takes_of hs hf hex hx) (fun _ _ _ _ z => z) pins σ H s e s' I c
end

/-! ### the same, for exceptions whose context is None (defs called in an except suite) -/
theorem pmk_XN {X : Cx} {C : Addr} {x : Str} {p pos : Pos} (T : ExT X.K X.mg x C) (hg : Gl X x := by rfl) (hdb : (x == ("__debug__" : Str)) = false := by decide) : L2N.PMk X (.Call (.Name x p) [] [] pos) (fun _ H Q => Q (.ref C) none H) := fun pins s σ H Q I h => by
  refine wpAny_Call_Name_kw (ld_glob I hg T.g (PySem.W.callWith_K0 I.kIn T.k ?_) hdb)
  obtain ⟨_, _, _, _, _, _, _, _, _, _, _, _, _, _, _, _, _, hC, hN, hi, U⟩ := exc_obj I.kIn T.x
  exact wpAny_call_exc_subT PySem.F.excBase_ValueError U hC hN hi (fun _ _ hm => L2N.mk_of I hm (raises_own T.b T.t) h (I.hok.gone hm.new)) (Nat.zero_le _)
theorem passEN {X : Cx} {E : XK} {E1 : Value → Shared → Prop} (hs : X.stack = X.env :: X.outer) (hf : X.env.frame = some X.env.locals) (hex : X.ex = [])
    (hx : X.xe = fun e s' => wpAny (model X.prog X.w) X.A (leaving X.env e) (fun _ s'' => L2N.CX X.prog X.w X.outer X.H_0 X.s_0 E e s'') E1 s') : ∀ σ, PassesAt (L2N.CX X.prog X.w) X σ ((fun _ => E) σ) :=
  fun σ pins H s e s' I c => L2N.passes_call (L2N.takes_of hs hf hex hx) (fun _ _ _ _ z => z) pins σ H s e s' I c
theorem passNN {X : Cx} : ∀ σ, PassesAt (L2N.CX X.prog X.w) X σ ((fun _ => E0) σ) := fun σ pins H s e s' I c => by
  obtain ⟨_, _, _, _, _, _, _, _, _, _, _, _, z⟩ := c
  exact z.elim
theorem okXN {P : Program} {w : World} {K : PySem.W.Frag} {mg : Str → Option Value} {base : Heap} {x qual : Str} {st : Stmt} {f : Addr} {fd : FuncData} {N ps : List Str} {k : Nat} {sp : Sp} (F : Fun K x qual st f fd) (S : FnScope N ps (defScope st)) (len : ∀ vs H Q E, sp vs H Q E → vs.length = ps.length)
    (hb : ∀ cdv A outer s H vs Q E, Room k (A.deeper (PyProof.Rows.envOfC qual (defScope st) s.heap.objs.size f cdv)) → sp vs H Q E →
      ∃ t, PSs (cxOf (L2N.CX P w) P w K mg base N qual (defScope st) f cdv A outer s H E) (defBody st) t ∧ t { nx := fun _ H' => Q .non H', rt := Q } (start N vs) H) : FnOk P w K mg base (L2N.CX P w) (k + 1) f fd ps sp := by
  obtain ⟨oc, od, kV, doc, pm, an, cdv, ct, osl, rfl, lk, hcd⟩ := F.ex
  exact fn_of lk hcd S len (hb cdv)

/-! ### fields, methods, dicts: their steps -/
section
variable {K : PySem.W.Frag} {σ : L2.St} {H : Hp} {Q : VK} {D : Ends} {ta tv td ty tx te : TE} {t u : TS} {x y z v : V} {f m : Str} {p a C dx : Addr} {fs fs' : List (Str × V)} {ts : TA} {sp : Sp} {E : L2.St → XK}
def rFldQ (K : PySem.W.Frag) (f : Str) (x : V) (H : Hp) (Q : VK) : Prop := ∃ a C dx fs v, x = .ref a ∧ H a = some (.ins C dx fs) ∧ Cls K C ∧ NoAttr K C f ∧ fs.lookup f = some v ∧ Q v H
theorem x_tfld (h : ta σ H fun x H1 => rFldQ K f x H1 Q) : tFld K ta f σ H Q := h
theorem x_fld (h : H p = some (.ins C dx fs)) (cl : Cls K C) (na : NoAttr K C f) (l : fs.lookup f = some v) (q : Q v H) : rFldQ K f (.ref p) H Q := ⟨p, C, dx, fs, v, rfl, h, cl, na, l, q⟩
def rSFld (K : PySem.W.Frag) (f : Str) (x y : V) (H : Hp) (R : Hp → Prop) : Prop := ∃ a C dx fs, x = .ref a ∧ H a = some (.ins C dx fs) ∧ Cls K C ∧ NoAttr K C f ∧ fs.length < 1000 ∧ R (upd H a (.ins C dx (putF f y fs)))
theorem x_tsf (h : tv σ H fun y H1 => ta σ H1 fun x H2 => rSFld K f x y H2 (D.nx σ)) : sFld K ta tv f D σ H := h
theorem x_sfl {R : Hp → Prop} (h : H p = some (.ins C dx fs)) (cl : Cls K C) (na : NoAttr K C f) (ln : fs.length < 1000) (e : putF f y fs = fs') (q : ∀ H1, H1 p = some (.ins C dx fs') → Kp (F1 p) H H1 → R H1) : rSFld K f (.ref p) y H R :=
  ⟨p, C, dx, fs, rfl, h, cl, na, ln, q _ (by rw [e]; exact upd_same) (Kp.put h id)⟩
def rAugQ (K : PySem.W.Frag) (f : Str) (x : V) (H : Hp) (R : Addr → Addr → V → Prop) : Prop := ∃ a C dx fs v, x = .ref a ∧ H a = some (.ins C dx fs) ∧ Cls K C ∧ NoAttr K C f ∧ fs.lookup f = some v ∧ R a C v
def rAugP (f : Str) (a C : Addr) (z : V) (H : Hp) (R : Hp → Prop) : Prop := ∃ dx' fs', H a = some (.ins C dx' fs') ∧ fs'.length < 1000 ∧ R (upd H a (.ins C dx' (putF f z fs')))
theorem x_aug {rd : V → V → Hp → VK → Prop} (h : ta σ H fun x H1 => rAugQ K f x H1 fun a C v => tv σ H1 fun y H2 => rd v y H2 fun z H3 => rAugP f a C z H3 (D.nx σ)) : sFldAug K ta tv rd f D σ H := by
  exact h
theorem x_augI {R : Addr → Addr → V → Prop} (h : H p = some (.ins C dx fs)) (cl : Cls K C) (na : NoAttr K C f) (l : fs.lookup f = some v) (q : R p C v) : rAugQ K f (.ref p) H R := ⟨p, C, dx, fs, v, rfl, h, cl, na, l, q⟩
theorem x_augP {R : Hp → Prop} (h : H p = some (.ins C dx fs)) (ln : fs.length < 1000) (e : putF f y fs = fs') (q : ∀ H1, H1 p = some (.ins C dx fs') → Kp (F1 p) H H1 → R H1) : rAugP f p C y H R :=
  ⟨dx, fs, h, ln, q _ (by rw [e]; exact upd_same) (Kp.put h id)⟩
theorem x_radd {i j : Int} (q : Q (.int (i + j)) H) : rAdd (.int i) (.int j) H Q := ⟨i, j, rfl, rfl, q⟩
theorem x_rsub {i j : Int} (q : Q (.int (i - j)) H) : rSub (.int i) (.int j) H Q := ⟨i, j, rfl, rfl, q⟩
def rMethQ (C : Addr) (m : Str) (x : V) (H : Hp) (R : Addr → Prop) : Prop := ∃ a dx fs, x = .ref a ∧ H a = some (.ins C dx fs) ∧ fs.lookup m = none ∧ R a
theorem x_tmt (h : ta σ H fun x H1 => rMethQ C m x H1 fun a => ts σ H1 fun vs H2 => sp (.ref a :: vs) H2 Q (E σ)) : tMethS C m sp E ta ts σ H Q := h
theorem x_mt {R : Addr → Prop} (h : H p = some (.ins C dx fs)) (l : fs.lookup m = none) (q : R p) : rMethQ C m (.ref p) H R := ⟨p, dx, fs, rfl, h, l, q⟩
theorem x_mk (h : ts σ H fun vs H1 => ∀ x dx, H1 x = none → H1 dx = none → dx ≠ x → sp (.ref x :: vs) (upd (upd H1 dx (.own x)) x (.ins C dx [])) (fun v H2 => v = .non ∧ Q (.ref x) H2) (E σ)) : tMakeS C sp E ts σ H Q := h
/-- d[k], k in d, d.get(k, z), d[k] = v, d.pop(k) -/
def rDGet (x y : V) (H : Hp) (Q : VK) : Prop := ∃ a v, x = .ref a ∧ DGet H a y (some v) ∧ Q v H
theorem x_tdg (h : td σ H fun x H1 => ty σ H1 fun y H2 => rDGet x y H2 Q) : tDGet td ty σ H Q := h
theorem x_dgI {kvs : List (Key × V)} {n : Int} (h : Rd H a (.dK kvs)) (e : valV kvs (Sum.inl n) = some v) (q : Q v H) : rDGet (.ref a) (.int n) H Q := ⟨a, v, rfl, .inl ⟨kvs, .inl n, h, rfl, e.symm⟩, q⟩
theorem x_dgS {kvs : List (Key × V)} {n : Str} (h : Rd H a (.dK kvs)) (e : valV kvs (Sum.inr n) = some v) (q : Q v H) : rDGet (.ref a) (.str n) H Q := ⟨a, v, rfl, .inl ⟨kvs, .inr n, h, rfl, e.symm⟩, q⟩
def rDIn (x y : V) (H : Hp) (Q : VK) : Prop := ∃ a o, x = .ref a ∧ DGet H a y o ∧ Q (.bl o.isSome) H
theorem x_tdi (h : ty σ H fun y H1 => td σ H1 fun x H2 => rDIn x y H2 Q) : tDIn ty td σ H Q := h
theorem x_diI {kvs : List (Key × V)} {n : Int} (h : Rd H a (.dK kvs)) (q : Q (.bl (valV kvs (Sum.inl n)).isSome) H) : rDIn (.ref a) (.int n) H Q := ⟨a, _, rfl, .inl ⟨kvs, .inl n, h, rfl, rfl⟩, q⟩
def rDNin (x y : V) (H : Hp) (Q : VK) : Prop := ∃ a o, x = .ref a ∧ DGet H a y o ∧ Q (.bl (!o.isSome)) H
theorem x_tdn (h : ty σ H fun y H1 => td σ H1 fun x H2 => rDNin x y H2 Q) : tDNotIn ty td σ H Q := h
theorem x_dnI {kvs : List (Key × V)} {n : Int} (h : Rd H a (.dK kvs)) (q : Q (.bl (!(valV kvs (Sum.inl n)).isSome)) H) : rDNin (.ref a) (.int n) H Q := ⟨a, _, rfl, .inl ⟨kvs, .inl n, h, rfl, rfl⟩, q⟩
def rDGet2 (x : V) (H : Hp) (R : Addr → Prop) : Prop := ∃ a, x = .ref a ∧ IsD H a ∧ R a
def rDGet2b (a : Addr) (y z : V) (H : Hp) (Q : VK) : Prop := ∃ o, DGet H a y o ∧ Q (o.getD z) H
theorem x_tg2 (h : td σ H fun x H1 => rDGet2 x H1 fun a => ty σ H1 fun y H2 => tx σ H2 fun z H3 => rDGet2b a y z H3 Q) : tDGet2 td ty tx σ H Q := h
theorem x_g2a {kvs : List (Key × V)} {R : Addr → Prop} (h : Rd H a (.dK kvs)) (q : R a) : rDGet2 (.ref a) H R := ⟨a, rfl, .inl ⟨kvs, h⟩, q⟩
theorem x_g2b {kvs : List (Key × V)} {n : Int} (h : Rd H a (.dK kvs)) (q : Q ((valV kvs (Sum.inl n)).getD z) H) : rDGet2b a (.int n) z H Q := ⟨_, .inl ⟨kvs, .inl n, h, rfl, rfl⟩, q⟩
def rDPut (x y v : V) (H : Hp) (R : Hp → Prop) : Prop := ∃ a H4, x = .ref a ∧ DPut H a y v H4 ∧ R H4
theorem x_tdp (h : tv σ H fun v H1 => td σ H1 fun x H2 => ty σ H2 fun y H3 => rDPut x y v H3 (D.nx σ)) : sDPut td ty tv D σ H := h
theorem x_dpI {kvs : List (Key × V)} {n : Int} {R : Hp → Prop} (h : H a = some (.dK kvs)) (z : kvs.length < 16777216) (q : ∀ H1, H1 a = some (.dK (putK kvs (Sum.inl n) v)) → Kp (F1 a) H H1 → R H1) : rDPut (.ref a) (.int n) v H R :=
  ⟨a, _, rfl, .inl ⟨kvs, .inl n, h, rfl, Nat.lt_of_lt_of_le z (by decide), rfl⟩, q _ upd_same (Kp.put h id)⟩
theorem x_dpS {kvs kvs' : List (Key × V)} {n : Str} {R : Hp → Prop} (h : H a = some (.dK kvs)) (e : putK kvs (Sum.inr n) v = kvs') (z : kvs.length < 16777216) (q : ∀ H1, H1 a = some (.dK kvs') → Kp (F1 a) H H1 → R H1) : rDPut (.ref a) (.str n) v H R :=
  ⟨a, _, rfl, .inl ⟨kvs, .inr n, h, rfl, Nat.lt_of_lt_of_le z (by decide), rfl⟩, q _ (by rw [e]; exact upd_same) (Kp.put h id)⟩
theorem x_dnew (h : ∀ p H1, H p = none → Kp F0 H H1 → H1 p = some (.dK []) → Q (.ref p) H1) : tDNewK σ H Q := fun p hp => h p _ hp (Kp.new hp) upd_same
theorem x_lenD {kvs : List (Key × V)} (h : H a = some (.dK kvs)) (q : Q (.int kvs.length) H) : (fun (xs : List V) (H : Hp) (Q : VK) => ∃ a kvs, xs = [V.ref a] ∧ H a = some (.dK kvs) ∧ Q (.int kvs.length) H) [.ref a] H Q := ⟨a, kvs, rfl, h, q⟩
/-- x is None -/
def rIsNQ : R2 := fun x y H Q => y = .non ∧ Q (.bl (decide (x = .non))) H
theorem o_isN {X : Cx} : OpR X (compareOp .Is) rIsNQ := op_isN
theorem x_isNi {i : Int} (q : Q (.bl false) H) : rIsNQ (.int i) .non H Q := ⟨rfl, q⟩
theorem x_isNr (q : Q (.bl false) H) : rIsNQ (.ref a) .non H Q := ⟨rfl, q⟩
theorem x_isNn (q : Q (.bl true) H) : rIsNQ .non .non H Q := ⟨rfl, q⟩
def rNotNQ : R2 := fun x y H Q => y = .non ∧ Q (.bl (!decide (x = .non))) H
theorem o_notN {X : Cx} : OpR X (compareOp .IsNot) rNotNQ := op_notN
theorem x_notNi {i : Int} (q : Q (.bl true) H) : rNotNQ (.int i) .non H Q := ⟨rfl, q⟩
theorem x_notNr (q : Q (.bl true) H) : rNotNQ (.ref a) .non H Q := ⟨rfl, q⟩
theorem x_notNn (q : Q (.bl false) H) : rNotNQ .non .non H Q := ⟨rfl, q⟩
end
/-- a repeated list -/
theorem x_rep {H : Hp} {Q : VK} {l : Addr} {k : Int} {v : V} (h : H l = some (.lst [v])) (h0 : 0 ≤ k) (h1 : k ≤ 1000000) (q : ∀ p H1, H p = none → Kp F0 H H1 → H1 p = some (.lst (List.replicate k.toNat v)) → Q (.ref p) H1) : rRep (.ref l) (.int k) H Q :=
  ⟨l, k, [v], rfl, rfl, h, by omega, by omega, by rw [sizeLine_eq]; simp only [List.length_singleton]; omega, fun p hp => q p _ hp (Kp.new hp) (by rw [upd_same]; congr 2; generalize k.toNat = n; induction n with | zero => rfl | succ n ih => rw [List.replicate_succ, List.flatten_cons, ih, List.replicate_succ]; rfl)⟩
/-- reversed(xs) -/
theorem Wk.rev {K : PySem.W.Frag} {a : Addr} {xs : List V} : Wk (Itv K a xs.length) (fun H => SqL K H a xs) xs.reverse where
  go := fun i H h g => by
    rw [List.length_reverse] at h
    exact ⟨h, xs, xs[xs.length - 1 - i], g, by rw [List.getElem?_eq_getElem (by omega)]⟩
  yld := fun i H x H' h g y => by
    rw [List.length_reverse] at h
    refine ⟨y.1.symm, ?_⟩
    rw [List.getElem?_reverse h]
    exact y.2 xs g
  stop := fun H _ => by show xs.length ≤ _; rw [List.length_reverse]; exact Nat.le_refl _
section
variable {K : PySem.W.Frag} {σ : L2.St} {H : Hp} {ts : TA} {R : It → Hp → Prop} {a : Addr}
def rRevQ (K : PySem.W.Frag) (vs : List V) (H : Hp) (R : It → Hp → Prop) : Prop := ∃ (a : Addr) (xs : List V), vs = [.ref a] ∧ SqL K H a xs ∧ R (Itv K a xs.length) H
theorem x_irev (h : ts σ H fun vs H1 => rRevQ K vs H1 R) : iRev K ts σ H R := h
theorem x_rev {xs : List V} (h : SqL K H a xs) (q : R (Itv K a xs.length) H) : rRevQ K [.ref a] H R := ⟨a, xs, rfl, h, q⟩
end
theorem pi_revK {X : Cx} {K : PySem.W.Frag} {tg e : Expr} {ta : TA} (hK : X.K = K) (h : PI X tg e (iRev X.K ta)) : PI X tg e (iRev K ta) := by subst hK; exact h
/-- a footprint and what a step makes of it -/
structure Stp (G G' : Addr → Prop) (H H' : Hp) : Prop where
  kp : Kp G H H'
  gr : ∀ b, G' b → G b ∨ H b = none
theorem Stp.refl (G : Addr → Prop) (H : Hp) : Stp G G H H := ⟨Kp.refl H, fun b h => .inl h⟩
theorem Stp.trans {G G1 G2 : Addr → Prop} {H H1 H2 : Hp} (s : Stp G G1 H H1) (t : Stp G1 G2 H1 H2) : Stp G G2 H H2 := by
  refine ⟨s.kp.trans t.kp s.gr, fun b g => ?_⟩
  rcases t.gr b g with h | h
  · exact s.gr b h
  · by_cases q : G b
    · exact .inl q
    · cases e : H b with
      | none => exact .inr rfl
      | some o => rw [s.kp.get e q] at h; cases h
theorem Stp.pure {G : Addr → Prop} {H H' : Hp} (k : Kp F0 H H') : Stp G G H H' := ⟨k.mono fun _ z => z.elim, fun b h => .inl h⟩
theorem Stp.kp0 {G G' : Addr → Prop} {H H' : Hp} {b : Addr} {o : HO} (s : Stp G G' H H') (h : H b = some o) (n : ¬ G b) : ¬ G' b := fun z => by
  rcases s.gr b z with q | q
  · exact n q
  · rw [h] at q; cases q

/-- isinstance(e, c) in the suite that caught e, the class as the reading tells it -/
theorem c_isE {X : Cx} {a D : Addr} {cls : Value} {d : Option Addr} {oe : Obj} {pn : List (Addr × Obj)} (C : ExcC X.K D) (hz : Zc cls d oe) (hf : ∃ vs, oe.data = .fields vs) :
    CallR (X.suite a ((a, oe) :: pn)) (.builtin "isinstance") (fun xs H Q => cls = .ref D ∧ d = none ∧ rIsE X.K D a xs H Q) := fun pins s σ H xs us Q I r h => by
  obtain ⟨rfl, rfl, h⟩ := h
  exact call_isE C hz hf pins s σ H xs us Q I r h
theorem at_of_lt {a : List Int} {i : Nat} (h : i < a.length) : (a.map V.int)[i]? = some (.int (a.getD i 0)) := by
  rw [List.getElem?_map, List.getD_eq_getElem?_getD, List.getElem?_eq_getElem h]; rfl
end NV
namespace NV
open PySem L2
/-! the text by places -/
def top (i : Nat) : Stmt := PySem.Challenge.pw_nearvault_k17_pages_of_key_trees.main.body.getD i (.Pass ⟨0, 0, 0, 0⟩)
abbrev s__wall : Stmt := top 0
abbrev s_Device___init__ : Stmt := inClass (top 6) 0
abbrev s_Device_step : Stmt := inClass (top 6) 1
abbrev s_Device_write_page : Stmt := inClass (top 6) 2
abbrev s_Device_sync_pages : Stmt := inClass (top 6) 3
abbrev s_Device_append : Stmt := inClass (top 6) 4
abbrev s_Device_clear : Stmt := inClass (top 6) 5
abbrev s_Device_sync_log : Stmt := inClass (top 6) 6
abbrev s_Device_durable_page : Stmt := inClass (top 6) 7
abbrev s_Device_page : Stmt := inClass (top 6) 8
abbrev s_Device_log : Stmt := inClass (top 6) 9
abbrev s_Device_limit : Stmt := inClass (top 6) 10
abbrev s_Device_crash : Stmt := inClass (top 6) 11
abbrev s_Device_steps : Stmt := inClass (top 6) 12
abbrev s_Device_pending : Stmt := inClass (top 6) 13
abbrev s_write_number : Stmt := top 9
abbrev s_read_number : Stmt := top 10
abbrev s_write_point : Stmt := top 11
abbrev s_read_point : Stmt := top 12
abbrev s_pair_of : Stmt := top 18
abbrev s_filled : Stmt := top 19
abbrev s_KeyTree___init__ : Stmt := inClass (top 20) 0
abbrev s_KeyTree_write_entry : Stmt := inClass (top 20) 1
abbrev s_KeyTree_write_item : Stmt := inClass (top 20) 2
abbrev s_KeyTree_load : Stmt := inClass (top 20) 3
abbrev s_KeyTree_bytes_of : Stmt := inClass (top 20) 4
abbrev s_KeyTree_store : Stmt := inClass (top 20) 5
abbrev s_KeyTree_too_large : Stmt := inClass (top 20) 6
abbrev s_KeyTree_halves : Stmt := inClass (top 20) 7
abbrev s_KeyTree_child_place : Stmt := inClass (top 20) 8
abbrev s_KeyTree_path_to : Stmt := inClass (top 20) 9
abbrev s_KeyTree_save : Stmt := inClass (top 20) 10
abbrev s_KeyTree_insert : Stmt := inClass (top 20) 11
abbrev s_KeyTree_replace : Stmt := inClass (top 20) 12
abbrev s_KeyTree_delete : Stmt := inClass (top 20) 13
abbrev s_KeyTree_lower : Stmt := inClass (top 20) 14
abbrev s_KeyTree_entries : Stmt := inClass (top 20) 15
abbrev s_KeyTree_pages : Stmt := inClass (top 20) 16
abbrev s_read_groups : Stmt := top 23
abbrev s_Pager___init__ : Stmt := inClass (top 28) 0
abbrev s_Pager_count_head : Stmt := inClass (top 28) 1
abbrev s_Pager_read : Stmt := inClass (top 28) 2
abbrev s_Pager_write : Stmt := inClass (top 28) 3
abbrev s_Pager_field : Stmt := inClass (top 28) 4
abbrev s_Pager_set_field : Stmt := inClass (top 28) 5
abbrev s_Pager_allocate : Stmt := inClass (top 28) 6
abbrev s_Pager_release : Stmt := inClass (top 28) 7
abbrev s_Pager_commit : Stmt := inClass (top 28) 8
abbrev s_Pager_checkpoint : Stmt := inClass (top 28) 9
abbrev s_Pager_rollback : Stmt := inClass (top 28) 10
abbrev s__law_draw : Stmt := top 30
abbrev s__law_point : Stmt := top 31
abbrev s__law_spanned : Stmt := top 32
abbrev s__law_payload : Stmt := top 33
abbrev s__law_bytes : Stmt := top 34
abbrev s__law_entry : Stmt := top 35
abbrev s__law_child : Stmt := top 36
abbrev s__law_parts : Stmt := top 37
abbrev s__law_taken : Stmt := top 38
abbrev s__law_released : Stmt := top 39
abbrev s__law_way : Stmt := top 40
abbrev s__law_split_place : Stmt := top 41
abbrev s__law_settled : Stmt := top 42
abbrev s__law_lowered : Stmt := top 43
abbrev s__law_deleted : Stmt := top 44
abbrev s__law_page : Stmt := top 45
abbrev s__law_same : Stmt := top 46
abbrev s__law_new : Stmt := top 47
abbrev s__law_inserted : Stmt := top 48
abbrev s__law_step : Stmt := top 49
abbrev s_law : Stmt := top 50
theorem sc__wall : FnScope ["k"] ["k"] (defScope s__wall) := ⟨rfl, rfl, rfl, by decide +kernel, rfl, by decide +kernel, by decide +kernel⟩
theorem sc_Device___init__ : FnScope ["self"] ["self"] (defScope s_Device___init__) := ⟨rfl, rfl, rfl, by decide +kernel, rfl, by decide +kernel, by decide +kernel⟩
theorem sc_Device_step : FnScope ["self"] ["self"] (defScope s_Device_step) := ⟨rfl, rfl, rfl, by decide +kernel, rfl, by decide +kernel, by decide +kernel⟩
theorem sc_Device_write_page : FnScope ["self", "number", "data"] ["self", "number", "data"] (defScope s_Device_write_page) := ⟨rfl, rfl, rfl, by decide +kernel, rfl, by decide +kernel, by decide +kernel⟩
theorem sc_Device_sync_pages : FnScope ["self", "number", "data"] ["self"] (defScope s_Device_sync_pages) := ⟨rfl, rfl, rfl, by decide +kernel, rfl, by decide +kernel, by decide +kernel⟩
theorem sc_Device_append : FnScope ["self", "data", "byte"] ["self", "data"] (defScope s_Device_append) := ⟨rfl, rfl, rfl, by decide +kernel, rfl, by decide +kernel, by decide +kernel⟩
theorem sc_Device_clear : FnScope ["self"] ["self"] (defScope s_Device_clear) := ⟨rfl, rfl, rfl, by decide +kernel, rfl, by decide +kernel, by decide +kernel⟩
theorem sc_Device_sync_log : FnScope ["self"] ["self"] (defScope s_Device_sync_log) := ⟨rfl, rfl, rfl, by decide +kernel, rfl, by decide +kernel, by decide +kernel⟩
theorem sc_Device_durable_page : FnScope ["self", "number"] ["self", "number"] (defScope s_Device_durable_page) := ⟨rfl, rfl, rfl, by decide +kernel, rfl, by decide +kernel, by decide +kernel⟩
theorem sc_Device_page : FnScope ["self", "number", "other", "data"] ["self", "number"] (defScope s_Device_page) := ⟨rfl, rfl, rfl, by decide +kernel, rfl, by decide +kernel, by decide +kernel⟩
theorem sc_Device_log : FnScope ["self", "data", "byte"] ["self"] (defScope s_Device_log) := ⟨rfl, rfl, rfl, by decide +kernel, rfl, by decide +kernel, by decide +kernel⟩
theorem sc_Device_limit : FnScope ["self", "steps"] ["self", "steps"] (defScope s_Device_limit) := ⟨rfl, rfl, rfl, by decide +kernel, rfl, by decide +kernel, by decide +kernel⟩
theorem sc_Device_crash : FnScope ["self", "fates", "kept"] ["self", "fates", "kept"] (defScope s_Device_crash) := ⟨rfl, rfl, rfl, by decide +kernel, rfl, by decide +kernel, by decide +kernel⟩
theorem sc_Device_steps : FnScope ["self"] ["self"] (defScope s_Device_steps) := ⟨rfl, rfl, rfl, by decide +kernel, rfl, by decide +kernel, by decide +kernel⟩
theorem sc_Device_pending : FnScope ["self"] ["self"] (defScope s_Device_pending) := ⟨rfl, rfl, rfl, by decide +kernel, rfl, by decide +kernel, by decide +kernel⟩
theorem sc_write_number : FnScope ["width", "number", "k"] ["width", "number"] (defScope s_write_number) := ⟨rfl, rfl, rfl, by decide +kernel, rfl, by decide +kernel, by decide +kernel⟩
theorem sc_read_number : FnScope ["data", "place", "width", "number", "byte"] ["data", "place", "width"] (defScope s_read_number) := ⟨rfl, rfl, rfl, by decide +kernel, rfl, by decide +kernel, by decide +kernel⟩
theorem sc_write_point : FnScope ["point", "data", "coordinate"] ["point"] (defScope s_write_point) := ⟨rfl, rfl, rfl, by decide +kernel, rfl, by decide +kernel, by decide +kernel⟩
theorem sc_read_point : FnScope ["data", "place", "dimensions", "k"] ["data", "place", "dimensions"] (defScope s_read_point) := ⟨rfl, rfl, rfl, by decide +kernel, rfl, by decide +kernel, by decide +kernel⟩
theorem sc_pair_of : FnScope ["item"] ["item"] (defScope s_pair_of) := ⟨rfl, rfl, rfl, by decide +kernel, rfl, by decide +kernel, by decide +kernel⟩
theorem sc_filled : FnScope ["data"] ["data"] (defScope s_filled) := ⟨rfl, rfl, rfl, by decide +kernel, rfl, by decide +kernel, by decide +kernel⟩
theorem sc_KeyTree___init__ : FnScope ["self", "pager", "root", "dimensions"] ["self", "pager", "root", "dimensions"] (defScope s_KeyTree___init__) := ⟨rfl, rfl, rfl, by decide +kernel, rfl, by decide +kernel, by decide +kernel⟩
theorem sc_KeyTree_write_entry : FnScope ["self", "entry", "key", "begin", "end", "point", "payload", "data"] ["self", "entry"] (defScope s_KeyTree_write_entry) := ⟨rfl, rfl, rfl, by decide +kernel, rfl, by decide +kernel, by decide +kernel⟩
theorem sc_KeyTree_write_item : FnScope ["self", "kind", "item"] ["self", "kind", "item"] (defScope s_KeyTree_write_item) := ⟨rfl, rfl, rfl, by decide +kernel, rfl, by decide +kernel, by decide +kernel⟩
theorem sc_KeyTree_load : FnScope ["self", "number", "data", "items", "place", "k", "numbers", "point", "stop", "i"] ["self", "number"] (defScope s_KeyTree_load) := ⟨rfl, rfl, rfl, by decide +kernel, rfl, by decide +kernel, by decide +kernel⟩
theorem sc_KeyTree_bytes_of : FnScope ["self", "kind", "items", "data", "item"] ["self", "kind", "items"] (defScope s_KeyTree_bytes_of) := ⟨rfl, rfl, rfl, by decide +kernel, rfl, by decide +kernel, by decide +kernel⟩
theorem sc_KeyTree_store : FnScope ["self", "number", "kind", "items"] ["self", "number", "kind", "items"] (defScope s_KeyTree_store) := ⟨rfl, rfl, rfl, by decide +kernel, rfl, by decide +kernel, by decide +kernel⟩
theorem sc_KeyTree_too_large : FnScope ["self", "kind", "items"] ["self", "kind", "items"] (defScope s_KeyTree_too_large) := ⟨rfl, rfl, rfl, by decide +kernel, rfl, by decide +kernel, by decide +kernel⟩
theorem sc_KeyTree_halves : FnScope ["self", "kind", "items", "sizes", "count", "size", "item"] ["self", "kind", "items"] (defScope s_KeyTree_halves) := ⟨rfl, rfl, rfl, by decide +kernel, rfl, by decide +kernel, by decide +kernel⟩
theorem sc_KeyTree_child_place : FnScope ["self", "children", "pair", "place", "k"] ["self", "children", "pair"] (defScope s_KeyTree_child_place) := ⟨rfl, rfl, rfl, by decide +kernel, rfl, by decide +kernel, by decide +kernel⟩
theorem sc_KeyTree_path_to : FnScope ["self", "pair", "path", "number", "kind", "items", "place"] ["self", "pair"] (defScope s_KeyTree_path_to) := ⟨rfl, rfl, rfl, by decide +kernel, rfl, by decide +kernel, by decide +kernel⟩
theorem sc_KeyTree_save : FnScope ["self", "path", "number", "kind", "items", "first", "second", "other", "new", "parent", "place", "children"] ["self", "path", "number", "kind", "items"] (defScope s_KeyTree_save) := ⟨rfl, rfl, rfl, by decide +kernel, rfl, by decide +kernel, by decide +kernel⟩
theorem sc_KeyTree_insert : FnScope ["self", "entry", "path", "number", "items", "place", "item"] ["self", "entry"] (defScope s_KeyTree_insert) := ⟨rfl, rfl, rfl, by decide +kernel, rfl, by decide +kernel, by decide +kernel⟩
theorem sc_KeyTree_replace : FnScope ["self", "key", "begin", "end", "path", "number", "items", "k"] ["self", "key", "begin", "end"] (defScope s_KeyTree_replace) := ⟨rfl, rfl, rfl, by decide +kernel, rfl, by decide +kernel, by decide +kernel⟩
theorem sc_KeyTree_delete : FnScope ["self", "key", "begin", "path", "number", "items", "kind", "place", "item"] ["self", "key", "begin"] (defScope s_KeyTree_delete) := ⟨rfl, rfl, rfl, by decide +kernel, rfl, by decide +kernel, by decide +kernel⟩
theorem sc_KeyTree_lower : FnScope ["self", "kind", "items", "child"] ["self"] (defScope s_KeyTree_lower) := ⟨rfl, rfl, rfl, by decide +kernel, rfl, by decide +kernel, by decide +kernel⟩
theorem sc_KeyTree_entries : FnScope ["self", "low", "high"] ["self", "low", "high"] (defScope s_KeyTree_entries) := ⟨rfl, rfl, rfl, by decide +kernel, rfl, by decide +kernel, by decide +kernel⟩
theorem sc_KeyTree_pages : FnScope ["self", "found", "waiting", "number", "kind", "items", "child"] ["self"] (defScope s_KeyTree_pages) := ⟨rfl, rfl, rfl, by decide +kernel, rfl, by decide +kernel, by decide +kernel⟩
theorem sc_read_groups : FnScope ["data", "groups", "place", "count", "pairs", "k", "start"] ["data"] (defScope s_read_groups) := ⟨rfl, rfl, rfl, by decide +kernel, rfl, by decide +kernel, by decide +kernel⟩
theorem sc_Pager___init__ : FnScope ["self", "device", "log", "pairs", "number", "data"] ["self", "device"] (defScope s_Pager___init__) := ⟨rfl, rfl, rfl, by decide +kernel, rfl, by decide +kernel, by decide +kernel⟩
theorem sc_Pager_count_head : FnScope ["self"] ["self"] (defScope s_Pager_count_head) := ⟨rfl, rfl, rfl, by decide +kernel, rfl, by decide +kernel, by decide +kernel⟩
theorem sc_Pager_read : FnScope ["self", "number"] ["self", "number"] (defScope s_Pager_read) := ⟨rfl, rfl, rfl, by decide +kernel, rfl, by decide +kernel, by decide +kernel⟩
theorem sc_Pager_write : FnScope ["self", "number", "data"] ["self", "number", "data"] (defScope s_Pager_write) := ⟨rfl, rfl, rfl, by decide +kernel, rfl, by decide +kernel, by decide +kernel⟩
theorem sc_Pager_field : FnScope ["self", "k"] ["self", "k"] (defScope s_Pager_field) := ⟨rfl, rfl, rfl, by decide +kernel, rfl, by decide +kernel, by decide +kernel⟩
theorem sc_Pager_set_field : FnScope ["self", "k", "number", "data"] ["self", "k", "number"] (defScope s_Pager_set_field) := ⟨rfl, rfl, rfl, by decide +kernel, rfl, by decide +kernel, by decide +kernel⟩
theorem sc_Pager_allocate : FnScope ["self", "number"] ["self"] (defScope s_Pager_allocate) := ⟨rfl, rfl, rfl, by decide +kernel, rfl, by decide +kernel, by decide +kernel⟩
theorem sc_Pager_release : FnScope ["self", "number"] ["self", "number"] (defScope s_Pager_release) := ⟨rfl, rfl, rfl, by decide +kernel, rfl, by decide +kernel, by decide +kernel⟩
theorem sc_Pager_commit : FnScope ["self"] ["self"] (defScope s_Pager_commit) := ⟨rfl, rfl, rfl, by decide +kernel, rfl, by decide +kernel, by decide +kernel⟩
theorem sc_Pager_checkpoint : FnScope ["self", "number"] ["self"] (defScope s_Pager_checkpoint) := ⟨rfl, rfl, rfl, by decide +kernel, rfl, by decide +kernel, by decide +kernel⟩
theorem sc_Pager_rollback : FnScope ["self"] ["self"] (defScope s_Pager_rollback) := ⟨rfl, rfl, rfl, by decide +kernel, rfl, by decide +kernel, by decide +kernel⟩
theorem sc__law_draw : FnScope ["_law_state", "_law_script", "_law_size", "_law_cell", "_law_mixed", "_law_digit"] ["_law_state", "_law_script", "_law_size"] (defScope s__law_draw) := ⟨rfl, rfl, rfl, by decide +kernel, rfl, by decide +kernel, by decide +kernel⟩
theorem sc__law_point : FnScope ["_law_state", "_law_script", "_law_many", "_law_span", "_law_k"] ["_law_state", "_law_script", "_law_many", "_law_span"] (defScope s__law_point) := ⟨rfl, rfl, rfl, by decide +kernel, rfl, by decide +kernel, by decide +kernel⟩
theorem sc__law_spanned : FnScope ["_law_state", "_law_script"] ["_law_state", "_law_script"] (defScope s__law_spanned) := ⟨rfl, rfl, rfl, by decide +kernel, rfl, by decide +kernel, by decide +kernel⟩
theorem sc__law_payload : FnScope ["_law_state", "_law_script", "_law_most", "_law_k"] ["_law_state", "_law_script"] (defScope s__law_payload) := ⟨rfl, rfl, rfl, by decide +kernel, rfl, by decide +kernel, by decide +kernel⟩
theorem sc__law_bytes : FnScope ["_law_number", "_law_width", "_law_k"] ["_law_number", "_law_width"] (defScope s__law_bytes) := ⟨rfl, rfl, rfl, by decide +kernel, rfl, by decide +kernel, by decide +kernel⟩
theorem sc__law_entry : FnScope ["_law_entry_here", "_law_data", "_law_one"] ["_law_entry_here"] (defScope s__law_entry) := ⟨rfl, rfl, rfl, by decide +kernel, rfl, by decide +kernel, by decide +kernel⟩
theorem sc__law_child : FnScope ["_law_child_here"] ["_law_child_here"] (defScope s__law_child) := ⟨rfl, rfl, rfl, by decide +kernel, rfl, by decide +kernel, by decide +kernel⟩
theorem sc__law_parts : FnScope ["_law_page_here", "_law_entry_here", "_law_child_here"] ["_law_page_here"] (defScope s__law_parts) := ⟨rfl, rfl, rfl, by decide +kernel, rfl, by decide +kernel, by decide +kernel⟩
theorem sc__law_taken : FnScope ["_law_model", "_law_number"] ["_law_model"] (defScope s__law_taken) := ⟨rfl, rfl, rfl, by decide +kernel, rfl, by decide +kernel, by decide +kernel⟩
theorem sc__law_released : FnScope ["_law_model", "_law_number", "_law_pages"] ["_law_model", "_law_number"] (defScope s__law_released) := ⟨rfl, rfl, rfl, by decide +kernel, rfl, by decide +kernel, by decide +kernel⟩
theorem sc__law_way : FnScope ["_law_model", "_law_pair", "_law_pages", "_law_path", "_law_number", "_law_children", "_law_place", "_law_child_here"] ["_law_model", "_law_pair"] (defScope s__law_way) := ⟨rfl, rfl, rfl, by decide +kernel, rfl, by decide +kernel, by decide +kernel⟩
theorem sc__law_split_place : FnScope ["_law_parts_here", "_law_whole", "_law_count", "_law_part"] ["_law_parts_here"] (defScope s__law_split_place) := ⟨rfl, rfl, rfl, by decide +kernel, rfl, by decide +kernel, by decide +kernel⟩
theorem sc__law_settled : FnScope ["_law_model", "_law_path", "_law_number", "_law_page_here", "_law_pages", "_law_parts_here", "_law_count", "_law_kind", "_law_items", "_law_second", "_law_first", "_law_place", "_law_children", "_law_part"] ["_law_model", "_law_path", "_law_number", "_law_page_here"] (defScope s__law_settled) := ⟨rfl, rfl, rfl, by decide +kernel, rfl, by decide +kernel, by decide +kernel⟩
theorem sc__law_lowered : FnScope ["_law_model", "_law_pages", "_law_child_here"] ["_law_model"] (defScope s__law_lowered) := ⟨rfl, rfl, rfl, by decide +kernel, rfl, by decide +kernel, by decide +kernel⟩
theorem sc__law_deleted : FnScope ["_law_model", "_law_pair", "_law_pages", "_law_path", "_law_number", "_law_items", "_law_place", "_law_entry_here"] ["_law_model", "_law_pair"] (defScope s__law_deleted) := ⟨rfl, rfl, rfl, by decide +kernel, rfl, by decide +kernel, by decide +kernel⟩
theorem sc__law_page : FnScope ["_law_model", "_law_number", "_law_data", "_law_rest", "_law_page_here", "_law_part"] ["_law_model", "_law_number"] (defScope s__law_page) := ⟨rfl, rfl, rfl, by decide +kernel, rfl, by decide +kernel, by decide +kernel⟩
theorem sc__law_same : FnScope ["_law_pager", "_law_model", "_law_whole", "_law_number"] ["_law_pager", "_law_model", "_law_whole"] (defScope s__law_same) := ⟨rfl, rfl, rfl, by decide +kernel, rfl, by decide +kernel, by decide +kernel⟩
theorem sc__law_new : FnScope ["_law_state", "_law_script", "_law_rows", "_law_many", "_law_span", "_law_key", "_law_begin", "_law_entry_here"] ["_law_state", "_law_script", "_law_rows", "_law_many", "_law_span"] (defScope s__law_new) := ⟨rfl, rfl, rfl, by decide +kernel, rfl, by decide +kernel, by decide +kernel⟩
theorem sc__law_inserted : FnScope ["_law_tree", "_law_model", "_law_rows", "_law_entry_here", "_law_path", "_law_number"] ["_law_tree", "_law_model", "_law_rows", "_law_entry_here"] (defScope s__law_inserted) := ⟨rfl, rfl, rfl, by decide +kernel, rfl, by decide +kernel, by decide +kernel⟩
theorem sc__law_step : FnScope ["_law_state", "_law_script", "_law_tree", "_law_model", "_law_rows", "_law_many", "_law_span", "_law_kind", "_law_entry_here", "_law_other", "_law_number", "_law_items", "_law_pages", "_law_one"] ["_law_state", "_law_script", "_law_tree", "_law_model", "_law_rows", "_law_many", "_law_span"] (defScope s__law_step) := ⟨rfl, rfl, rfl, by decide +kernel, rfl, by decide +kernel, by decide +kernel⟩
theorem sc_law : FnScope ["_law_script", "_law_state", "_law_many", "_law_span", "_law_pager", "_law_tree", "_law_model", "_law_rows", "_law_step_here", "_law_k", "_law_point_here", "_law_turn", "_law_entry_here"] ["_law_script"] (defScope s_law) := ⟨rfl, rfl, rfl, by decide +kernel, rfl, by decide +kernel, by decide +kernel⟩
/-- the addresses of the classes -/
structure Cl where
  VaultError : Addr
  PowerCut : Addr
  Device : Addr
  KeyTree : Addr
  Pager : Addr
def F_Device1 (v0 : V) : List (Str × V) := [("pages", v0)]
def F_Device2 (v0 v1 : V) : List (Str × V) := [("pages", v0), ("page_writes", v1)]
def F_Device3 (v0 v1 v2 : V) : List (Str × V) := [("pages", v0), ("page_writes", v1), ("durable_log", v2)]
def F_Device4 (v0 v1 v2 v3 : V) : List (Str × V) := [("pages", v0), ("page_writes", v1), ("durable_log", v2), ("log_steps", v3)]
def F_Device5 (v0 v1 v2 v3 v4 : V) : List (Str × V) := [("pages", v0), ("page_writes", v1), ("durable_log", v2), ("log_steps", v3), ("done", v4)]
def F_Device (v0 v1 v2 v3 v4 v5 : V) : List (Str × V) := [("pages", v0), ("page_writes", v1), ("durable_log", v2), ("log_steps", v3), ("done", v4), ("most", v5)]
theorem lk_Device_pages {v0 v1 v2 v3 v4 v5 : V} : (F_Device v0 v1 v2 v3 v4 v5).lookup ("pages" : Str) = some v0 := by kernel_rfl
theorem pt_Device_pages {v0 v1 v2 v3 v4 v5 : V} {u : V} : putF "pages" u (F_Device v0 v1 v2 v3 v4 v5) = (F_Device u v1 v2 v3 v4 v5) := by kernel_rfl
theorem pi_Device_pages {v0 : V} : putF "pages" v0 ([] : List (Str × V)) = (F_Device1 v0) := by kernel_rfl
theorem ln_Device_1 {v0 : V} : (F_Device1 v0).length < 1000 := by show 1 < 1000; decide
theorem lk_Device_page_writes {v0 v1 v2 v3 v4 v5 : V} : (F_Device v0 v1 v2 v3 v4 v5).lookup ("page_writes" : Str) = some v1 := by kernel_rfl
theorem pt_Device_page_writes {v0 v1 v2 v3 v4 v5 : V} {u : V} : putF "page_writes" u (F_Device v0 v1 v2 v3 v4 v5) = (F_Device v0 u v2 v3 v4 v5) := by kernel_rfl
theorem pi_Device_page_writes {v0 v1 : V} : putF "page_writes" v1 (F_Device1 v0) = (F_Device2 v0 v1) := by kernel_rfl
theorem li_Device_pages_1 {v0 : V} : (F_Device1 v0).lookup ("pages" : Str) = some v0 := by kernel_rfl
theorem ln_Device_2 {v0 v1 : V} : (F_Device2 v0 v1).length < 1000 := by show 2 < 1000; decide
theorem lk_Device_durable_log {v0 v1 v2 v3 v4 v5 : V} : (F_Device v0 v1 v2 v3 v4 v5).lookup ("durable_log" : Str) = some v2 := by kernel_rfl
theorem pt_Device_durable_log {v0 v1 v2 v3 v4 v5 : V} {u : V} : putF "durable_log" u (F_Device v0 v1 v2 v3 v4 v5) = (F_Device v0 v1 u v3 v4 v5) := by kernel_rfl
theorem pi_Device_durable_log {v0 v1 v2 : V} : putF "durable_log" v2 (F_Device2 v0 v1) = (F_Device3 v0 v1 v2) := by kernel_rfl
theorem li_Device_pages_2 {v0 v1 : V} : (F_Device2 v0 v1).lookup ("pages" : Str) = some v0 := by kernel_rfl
theorem li_Device_page_writes_2 {v0 v1 : V} : (F_Device2 v0 v1).lookup ("page_writes" : Str) = some v1 := by kernel_rfl
theorem ln_Device_3 {v0 v1 v2 : V} : (F_Device3 v0 v1 v2).length < 1000 := by show 3 < 1000; decide
theorem lk_Device_log_steps {v0 v1 v2 v3 v4 v5 : V} : (F_Device v0 v1 v2 v3 v4 v5).lookup ("log_steps" : Str) = some v3 := by kernel_rfl
theorem pt_Device_log_steps {v0 v1 v2 v3 v4 v5 : V} {u : V} : putF "log_steps" u (F_Device v0 v1 v2 v3 v4 v5) = (F_Device v0 v1 v2 u v4 v5) := by kernel_rfl
theorem pi_Device_log_steps {v0 v1 v2 v3 : V} : putF "log_steps" v3 (F_Device3 v0 v1 v2) = (F_Device4 v0 v1 v2 v3) := by kernel_rfl
theorem li_Device_pages_3 {v0 v1 v2 : V} : (F_Device3 v0 v1 v2).lookup ("pages" : Str) = some v0 := by kernel_rfl
theorem li_Device_page_writes_3 {v0 v1 v2 : V} : (F_Device3 v0 v1 v2).lookup ("page_writes" : Str) = some v1 := by kernel_rfl
theorem li_Device_durable_log_3 {v0 v1 v2 : V} : (F_Device3 v0 v1 v2).lookup ("durable_log" : Str) = some v2 := by kernel_rfl
theorem ln_Device_4 {v0 v1 v2 v3 : V} : (F_Device4 v0 v1 v2 v3).length < 1000 := by show 4 < 1000; decide
theorem lk_Device_done {v0 v1 v2 v3 v4 v5 : V} : (F_Device v0 v1 v2 v3 v4 v5).lookup ("done" : Str) = some v4 := by kernel_rfl
theorem pt_Device_done {v0 v1 v2 v3 v4 v5 : V} {u : V} : putF "done" u (F_Device v0 v1 v2 v3 v4 v5) = (F_Device v0 v1 v2 v3 u v5) := by kernel_rfl
theorem pi_Device_done {v0 v1 v2 v3 v4 : V} : putF "done" v4 (F_Device4 v0 v1 v2 v3) = (F_Device5 v0 v1 v2 v3 v4) := by kernel_rfl
theorem li_Device_pages_4 {v0 v1 v2 v3 : V} : (F_Device4 v0 v1 v2 v3).lookup ("pages" : Str) = some v0 := by kernel_rfl
theorem li_Device_page_writes_4 {v0 v1 v2 v3 : V} : (F_Device4 v0 v1 v2 v3).lookup ("page_writes" : Str) = some v1 := by kernel_rfl
theorem li_Device_durable_log_4 {v0 v1 v2 v3 : V} : (F_Device4 v0 v1 v2 v3).lookup ("durable_log" : Str) = some v2 := by kernel_rfl
theorem li_Device_log_steps_4 {v0 v1 v2 v3 : V} : (F_Device4 v0 v1 v2 v3).lookup ("log_steps" : Str) = some v3 := by kernel_rfl
theorem ln_Device_5 {v0 v1 v2 v3 v4 : V} : (F_Device5 v0 v1 v2 v3 v4).length < 1000 := by show 5 < 1000; decide
theorem lk_Device_most {v0 v1 v2 v3 v4 v5 : V} : (F_Device v0 v1 v2 v3 v4 v5).lookup ("most" : Str) = some v5 := by kernel_rfl
theorem pt_Device_most {v0 v1 v2 v3 v4 v5 : V} {u : V} : putF "most" u (F_Device v0 v1 v2 v3 v4 v5) = (F_Device v0 v1 v2 v3 v4 u) := by kernel_rfl
theorem pi_Device_most {v0 v1 v2 v3 v4 v5 : V} : putF "most" v5 (F_Device5 v0 v1 v2 v3 v4) = (F_Device v0 v1 v2 v3 v4 v5) := by kernel_rfl
theorem li_Device_pages_5 {v0 v1 v2 v3 v4 : V} : (F_Device5 v0 v1 v2 v3 v4).lookup ("pages" : Str) = some v0 := by kernel_rfl
theorem li_Device_page_writes_5 {v0 v1 v2 v3 v4 : V} : (F_Device5 v0 v1 v2 v3 v4).lookup ("page_writes" : Str) = some v1 := by kernel_rfl
theorem li_Device_durable_log_5 {v0 v1 v2 v3 v4 : V} : (F_Device5 v0 v1 v2 v3 v4).lookup ("durable_log" : Str) = some v2 := by kernel_rfl
theorem li_Device_log_steps_5 {v0 v1 v2 v3 v4 : V} : (F_Device5 v0 v1 v2 v3 v4).lookup ("log_steps" : Str) = some v3 := by kernel_rfl
theorem li_Device_done_5 {v0 v1 v2 v3 v4 : V} : (F_Device5 v0 v1 v2 v3 v4).lookup ("done" : Str) = some v4 := by kernel_rfl
theorem ln_Device_6 {v0 v1 v2 v3 v4 v5 : V} : (F_Device v0 v1 v2 v3 v4 v5).length < 1000 := by show 6 < 1000; decide
theorem no_Device_step {v0 v1 v2 v3 v4 v5 : V} : (F_Device v0 v1 v2 v3 v4 v5).lookup ("step" : Str) = none := by kernel_rfl
theorem ni_Device_step_1 {v0 : V} : (F_Device1 v0).lookup ("step" : Str) = none := by kernel_rfl
theorem ni_Device_step_2 {v0 v1 : V} : (F_Device2 v0 v1).lookup ("step" : Str) = none := by kernel_rfl
theorem ni_Device_step_3 {v0 v1 v2 : V} : (F_Device3 v0 v1 v2).lookup ("step" : Str) = none := by kernel_rfl
theorem ni_Device_step_4 {v0 v1 v2 v3 : V} : (F_Device4 v0 v1 v2 v3).lookup ("step" : Str) = none := by kernel_rfl
theorem ni_Device_step_5 {v0 v1 v2 v3 v4 : V} : (F_Device5 v0 v1 v2 v3 v4).lookup ("step" : Str) = none := by kernel_rfl
theorem no_Device_write_page {v0 v1 v2 v3 v4 v5 : V} : (F_Device v0 v1 v2 v3 v4 v5).lookup ("write_page" : Str) = none := by kernel_rfl
theorem ni_Device_write_page_1 {v0 : V} : (F_Device1 v0).lookup ("write_page" : Str) = none := by kernel_rfl
theorem ni_Device_write_page_2 {v0 v1 : V} : (F_Device2 v0 v1).lookup ("write_page" : Str) = none := by kernel_rfl
theorem ni_Device_write_page_3 {v0 v1 v2 : V} : (F_Device3 v0 v1 v2).lookup ("write_page" : Str) = none := by kernel_rfl
theorem ni_Device_write_page_4 {v0 v1 v2 v3 : V} : (F_Device4 v0 v1 v2 v3).lookup ("write_page" : Str) = none := by kernel_rfl
theorem ni_Device_write_page_5 {v0 v1 v2 v3 v4 : V} : (F_Device5 v0 v1 v2 v3 v4).lookup ("write_page" : Str) = none := by kernel_rfl
theorem no_Device_sync_pages {v0 v1 v2 v3 v4 v5 : V} : (F_Device v0 v1 v2 v3 v4 v5).lookup ("sync_pages" : Str) = none := by kernel_rfl
theorem ni_Device_sync_pages_1 {v0 : V} : (F_Device1 v0).lookup ("sync_pages" : Str) = none := by kernel_rfl
theorem ni_Device_sync_pages_2 {v0 v1 : V} : (F_Device2 v0 v1).lookup ("sync_pages" : Str) = none := by kernel_rfl
theorem ni_Device_sync_pages_3 {v0 v1 v2 : V} : (F_Device3 v0 v1 v2).lookup ("sync_pages" : Str) = none := by kernel_rfl
theorem ni_Device_sync_pages_4 {v0 v1 v2 v3 : V} : (F_Device4 v0 v1 v2 v3).lookup ("sync_pages" : Str) = none := by kernel_rfl
theorem ni_Device_sync_pages_5 {v0 v1 v2 v3 v4 : V} : (F_Device5 v0 v1 v2 v3 v4).lookup ("sync_pages" : Str) = none := by kernel_rfl
theorem no_Device_append {v0 v1 v2 v3 v4 v5 : V} : (F_Device v0 v1 v2 v3 v4 v5).lookup ("append" : Str) = none := by kernel_rfl
theorem ni_Device_append_1 {v0 : V} : (F_Device1 v0).lookup ("append" : Str) = none := by kernel_rfl
theorem ni_Device_append_2 {v0 v1 : V} : (F_Device2 v0 v1).lookup ("append" : Str) = none := by kernel_rfl
theorem ni_Device_append_3 {v0 v1 v2 : V} : (F_Device3 v0 v1 v2).lookup ("append" : Str) = none := by kernel_rfl
theorem ni_Device_append_4 {v0 v1 v2 v3 : V} : (F_Device4 v0 v1 v2 v3).lookup ("append" : Str) = none := by kernel_rfl
theorem ni_Device_append_5 {v0 v1 v2 v3 v4 : V} : (F_Device5 v0 v1 v2 v3 v4).lookup ("append" : Str) = none := by kernel_rfl
theorem no_Device_clear {v0 v1 v2 v3 v4 v5 : V} : (F_Device v0 v1 v2 v3 v4 v5).lookup ("clear" : Str) = none := by kernel_rfl
theorem ni_Device_clear_1 {v0 : V} : (F_Device1 v0).lookup ("clear" : Str) = none := by kernel_rfl
theorem ni_Device_clear_2 {v0 v1 : V} : (F_Device2 v0 v1).lookup ("clear" : Str) = none := by kernel_rfl
theorem ni_Device_clear_3 {v0 v1 v2 : V} : (F_Device3 v0 v1 v2).lookup ("clear" : Str) = none := by kernel_rfl
theorem ni_Device_clear_4 {v0 v1 v2 v3 : V} : (F_Device4 v0 v1 v2 v3).lookup ("clear" : Str) = none := by kernel_rfl
theorem ni_Device_clear_5 {v0 v1 v2 v3 v4 : V} : (F_Device5 v0 v1 v2 v3 v4).lookup ("clear" : Str) = none := by kernel_rfl
theorem no_Device_sync_log {v0 v1 v2 v3 v4 v5 : V} : (F_Device v0 v1 v2 v3 v4 v5).lookup ("sync_log" : Str) = none := by kernel_rfl
theorem ni_Device_sync_log_1 {v0 : V} : (F_Device1 v0).lookup ("sync_log" : Str) = none := by kernel_rfl
theorem ni_Device_sync_log_2 {v0 v1 : V} : (F_Device2 v0 v1).lookup ("sync_log" : Str) = none := by kernel_rfl
theorem ni_Device_sync_log_3 {v0 v1 v2 : V} : (F_Device3 v0 v1 v2).lookup ("sync_log" : Str) = none := by kernel_rfl
theorem ni_Device_sync_log_4 {v0 v1 v2 v3 : V} : (F_Device4 v0 v1 v2 v3).lookup ("sync_log" : Str) = none := by kernel_rfl
theorem ni_Device_sync_log_5 {v0 v1 v2 v3 v4 : V} : (F_Device5 v0 v1 v2 v3 v4).lookup ("sync_log" : Str) = none := by kernel_rfl
theorem no_Device_durable_page {v0 v1 v2 v3 v4 v5 : V} : (F_Device v0 v1 v2 v3 v4 v5).lookup ("durable_page" : Str) = none := by kernel_rfl
theorem ni_Device_durable_page_1 {v0 : V} : (F_Device1 v0).lookup ("durable_page" : Str) = none := by kernel_rfl
theorem ni_Device_durable_page_2 {v0 v1 : V} : (F_Device2 v0 v1).lookup ("durable_page" : Str) = none := by kernel_rfl
theorem ni_Device_durable_page_3 {v0 v1 v2 : V} : (F_Device3 v0 v1 v2).lookup ("durable_page" : Str) = none := by kernel_rfl
theorem ni_Device_durable_page_4 {v0 v1 v2 v3 : V} : (F_Device4 v0 v1 v2 v3).lookup ("durable_page" : Str) = none := by kernel_rfl
theorem ni_Device_durable_page_5 {v0 v1 v2 v3 v4 : V} : (F_Device5 v0 v1 v2 v3 v4).lookup ("durable_page" : Str) = none := by kernel_rfl
theorem no_Device_page {v0 v1 v2 v3 v4 v5 : V} : (F_Device v0 v1 v2 v3 v4 v5).lookup ("page" : Str) = none := by kernel_rfl
theorem ni_Device_page_1 {v0 : V} : (F_Device1 v0).lookup ("page" : Str) = none := by kernel_rfl
theorem ni_Device_page_2 {v0 v1 : V} : (F_Device2 v0 v1).lookup ("page" : Str) = none := by kernel_rfl
theorem ni_Device_page_3 {v0 v1 v2 : V} : (F_Device3 v0 v1 v2).lookup ("page" : Str) = none := by kernel_rfl
theorem ni_Device_page_4 {v0 v1 v2 v3 : V} : (F_Device4 v0 v1 v2 v3).lookup ("page" : Str) = none := by kernel_rfl
theorem ni_Device_page_5 {v0 v1 v2 v3 v4 : V} : (F_Device5 v0 v1 v2 v3 v4).lookup ("page" : Str) = none := by kernel_rfl
theorem no_Device_log {v0 v1 v2 v3 v4 v5 : V} : (F_Device v0 v1 v2 v3 v4 v5).lookup ("log" : Str) = none := by kernel_rfl
theorem ni_Device_log_1 {v0 : V} : (F_Device1 v0).lookup ("log" : Str) = none := by kernel_rfl
theorem ni_Device_log_2 {v0 v1 : V} : (F_Device2 v0 v1).lookup ("log" : Str) = none := by kernel_rfl
theorem ni_Device_log_3 {v0 v1 v2 : V} : (F_Device3 v0 v1 v2).lookup ("log" : Str) = none := by kernel_rfl
theorem ni_Device_log_4 {v0 v1 v2 v3 : V} : (F_Device4 v0 v1 v2 v3).lookup ("log" : Str) = none := by kernel_rfl
theorem ni_Device_log_5 {v0 v1 v2 v3 v4 : V} : (F_Device5 v0 v1 v2 v3 v4).lookup ("log" : Str) = none := by kernel_rfl
theorem no_Device_limit {v0 v1 v2 v3 v4 v5 : V} : (F_Device v0 v1 v2 v3 v4 v5).lookup ("limit" : Str) = none := by kernel_rfl
theorem ni_Device_limit_1 {v0 : V} : (F_Device1 v0).lookup ("limit" : Str) = none := by kernel_rfl
theorem ni_Device_limit_2 {v0 v1 : V} : (F_Device2 v0 v1).lookup ("limit" : Str) = none := by kernel_rfl
theorem ni_Device_limit_3 {v0 v1 v2 : V} : (F_Device3 v0 v1 v2).lookup ("limit" : Str) = none := by kernel_rfl
theorem ni_Device_limit_4 {v0 v1 v2 v3 : V} : (F_Device4 v0 v1 v2 v3).lookup ("limit" : Str) = none := by kernel_rfl
theorem ni_Device_limit_5 {v0 v1 v2 v3 v4 : V} : (F_Device5 v0 v1 v2 v3 v4).lookup ("limit" : Str) = none := by kernel_rfl
theorem no_Device_crash {v0 v1 v2 v3 v4 v5 : V} : (F_Device v0 v1 v2 v3 v4 v5).lookup ("crash" : Str) = none := by kernel_rfl
theorem ni_Device_crash_1 {v0 : V} : (F_Device1 v0).lookup ("crash" : Str) = none := by kernel_rfl
theorem ni_Device_crash_2 {v0 v1 : V} : (F_Device2 v0 v1).lookup ("crash" : Str) = none := by kernel_rfl
theorem ni_Device_crash_3 {v0 v1 v2 : V} : (F_Device3 v0 v1 v2).lookup ("crash" : Str) = none := by kernel_rfl
theorem ni_Device_crash_4 {v0 v1 v2 v3 : V} : (F_Device4 v0 v1 v2 v3).lookup ("crash" : Str) = none := by kernel_rfl
theorem ni_Device_crash_5 {v0 v1 v2 v3 v4 : V} : (F_Device5 v0 v1 v2 v3 v4).lookup ("crash" : Str) = none := by kernel_rfl
theorem no_Device_steps {v0 v1 v2 v3 v4 v5 : V} : (F_Device v0 v1 v2 v3 v4 v5).lookup ("steps" : Str) = none := by kernel_rfl
theorem ni_Device_steps_1 {v0 : V} : (F_Device1 v0).lookup ("steps" : Str) = none := by kernel_rfl
theorem ni_Device_steps_2 {v0 v1 : V} : (F_Device2 v0 v1).lookup ("steps" : Str) = none := by kernel_rfl
theorem ni_Device_steps_3 {v0 v1 v2 : V} : (F_Device3 v0 v1 v2).lookup ("steps" : Str) = none := by kernel_rfl
theorem ni_Device_steps_4 {v0 v1 v2 v3 : V} : (F_Device4 v0 v1 v2 v3).lookup ("steps" : Str) = none := by kernel_rfl
theorem ni_Device_steps_5 {v0 v1 v2 v3 v4 : V} : (F_Device5 v0 v1 v2 v3 v4).lookup ("steps" : Str) = none := by kernel_rfl
theorem no_Device_pending {v0 v1 v2 v3 v4 v5 : V} : (F_Device v0 v1 v2 v3 v4 v5).lookup ("pending" : Str) = none := by kernel_rfl
theorem ni_Device_pending_1 {v0 : V} : (F_Device1 v0).lookup ("pending" : Str) = none := by kernel_rfl
theorem ni_Device_pending_2 {v0 v1 : V} : (F_Device2 v0 v1).lookup ("pending" : Str) = none := by kernel_rfl
theorem ni_Device_pending_3 {v0 v1 v2 : V} : (F_Device3 v0 v1 v2).lookup ("pending" : Str) = none := by kernel_rfl
theorem ni_Device_pending_4 {v0 v1 v2 v3 : V} : (F_Device4 v0 v1 v2 v3).lookup ("pending" : Str) = none := by kernel_rfl
theorem ni_Device_pending_5 {v0 v1 v2 v3 v4 : V} : (F_Device5 v0 v1 v2 v3 v4).lookup ("pending" : Str) = none := by kernel_rfl
def F_KeyTree1 (v0 : V) : List (Str × V) := [("pager", v0)]
def F_KeyTree2 (v0 v1 : V) : List (Str × V) := [("pager", v0), ("root", v1)]
def F_KeyTree (v0 v1 v2 : V) : List (Str × V) := [("pager", v0), ("root", v1), ("dimensions", v2)]
theorem lk_KeyTree_pager {v0 v1 v2 : V} : (F_KeyTree v0 v1 v2).lookup ("pager" : Str) = some v0 := by kernel_rfl
theorem pt_KeyTree_pager {v0 v1 v2 : V} {u : V} : putF "pager" u (F_KeyTree v0 v1 v2) = (F_KeyTree u v1 v2) := by kernel_rfl
theorem pi_KeyTree_pager {v0 : V} : putF "pager" v0 ([] : List (Str × V)) = (F_KeyTree1 v0) := by kernel_rfl
theorem ln_KeyTree_1 {v0 : V} : (F_KeyTree1 v0).length < 1000 := by show 1 < 1000; decide
theorem lk_KeyTree_root {v0 v1 v2 : V} : (F_KeyTree v0 v1 v2).lookup ("root" : Str) = some v1 := by kernel_rfl
theorem pt_KeyTree_root {v0 v1 v2 : V} {u : V} : putF "root" u (F_KeyTree v0 v1 v2) = (F_KeyTree v0 u v2) := by kernel_rfl
theorem pi_KeyTree_root {v0 v1 : V} : putF "root" v1 (F_KeyTree1 v0) = (F_KeyTree2 v0 v1) := by kernel_rfl
theorem li_KeyTree_pager_1 {v0 : V} : (F_KeyTree1 v0).lookup ("pager" : Str) = some v0 := by kernel_rfl
theorem ln_KeyTree_2 {v0 v1 : V} : (F_KeyTree2 v0 v1).length < 1000 := by show 2 < 1000; decide
theorem lk_KeyTree_dimensions {v0 v1 v2 : V} : (F_KeyTree v0 v1 v2).lookup ("dimensions" : Str) = some v2 := by kernel_rfl
theorem pt_KeyTree_dimensions {v0 v1 v2 : V} {u : V} : putF "dimensions" u (F_KeyTree v0 v1 v2) = (F_KeyTree v0 v1 u) := by kernel_rfl
theorem pi_KeyTree_dimensions {v0 v1 v2 : V} : putF "dimensions" v2 (F_KeyTree2 v0 v1) = (F_KeyTree v0 v1 v2) := by kernel_rfl
theorem li_KeyTree_pager_2 {v0 v1 : V} : (F_KeyTree2 v0 v1).lookup ("pager" : Str) = some v0 := by kernel_rfl
theorem li_KeyTree_root_2 {v0 v1 : V} : (F_KeyTree2 v0 v1).lookup ("root" : Str) = some v1 := by kernel_rfl
theorem ln_KeyTree_3 {v0 v1 v2 : V} : (F_KeyTree v0 v1 v2).length < 1000 := by show 3 < 1000; decide
theorem no_KeyTree_write_entry {v0 v1 v2 : V} : (F_KeyTree v0 v1 v2).lookup ("write_entry" : Str) = none := by kernel_rfl
theorem ni_KeyTree_write_entry_1 {v0 : V} : (F_KeyTree1 v0).lookup ("write_entry" : Str) = none := by kernel_rfl
theorem ni_KeyTree_write_entry_2 {v0 v1 : V} : (F_KeyTree2 v0 v1).lookup ("write_entry" : Str) = none := by kernel_rfl
theorem no_KeyTree_write_item {v0 v1 v2 : V} : (F_KeyTree v0 v1 v2).lookup ("write_item" : Str) = none := by kernel_rfl
theorem ni_KeyTree_write_item_1 {v0 : V} : (F_KeyTree1 v0).lookup ("write_item" : Str) = none := by kernel_rfl
theorem ni_KeyTree_write_item_2 {v0 v1 : V} : (F_KeyTree2 v0 v1).lookup ("write_item" : Str) = none := by kernel_rfl
theorem no_KeyTree_load {v0 v1 v2 : V} : (F_KeyTree v0 v1 v2).lookup ("load" : Str) = none := by kernel_rfl
theorem ni_KeyTree_load_1 {v0 : V} : (F_KeyTree1 v0).lookup ("load" : Str) = none := by kernel_rfl
theorem ni_KeyTree_load_2 {v0 v1 : V} : (F_KeyTree2 v0 v1).lookup ("load" : Str) = none := by kernel_rfl
theorem no_KeyTree_bytes_of {v0 v1 v2 : V} : (F_KeyTree v0 v1 v2).lookup ("bytes_of" : Str) = none := by kernel_rfl
theorem ni_KeyTree_bytes_of_1 {v0 : V} : (F_KeyTree1 v0).lookup ("bytes_of" : Str) = none := by kernel_rfl
theorem ni_KeyTree_bytes_of_2 {v0 v1 : V} : (F_KeyTree2 v0 v1).lookup ("bytes_of" : Str) = none := by kernel_rfl
theorem no_KeyTree_store {v0 v1 v2 : V} : (F_KeyTree v0 v1 v2).lookup ("store" : Str) = none := by kernel_rfl
theorem ni_KeyTree_store_1 {v0 : V} : (F_KeyTree1 v0).lookup ("store" : Str) = none := by kernel_rfl
theorem ni_KeyTree_store_2 {v0 v1 : V} : (F_KeyTree2 v0 v1).lookup ("store" : Str) = none := by kernel_rfl
theorem no_KeyTree_too_large {v0 v1 v2 : V} : (F_KeyTree v0 v1 v2).lookup ("too_large" : Str) = none := by kernel_rfl
theorem ni_KeyTree_too_large_1 {v0 : V} : (F_KeyTree1 v0).lookup ("too_large" : Str) = none := by kernel_rfl
theorem ni_KeyTree_too_large_2 {v0 v1 : V} : (F_KeyTree2 v0 v1).lookup ("too_large" : Str) = none := by kernel_rfl
theorem no_KeyTree_halves {v0 v1 v2 : V} : (F_KeyTree v0 v1 v2).lookup ("halves" : Str) = none := by kernel_rfl
theorem ni_KeyTree_halves_1 {v0 : V} : (F_KeyTree1 v0).lookup ("halves" : Str) = none := by kernel_rfl
theorem ni_KeyTree_halves_2 {v0 v1 : V} : (F_KeyTree2 v0 v1).lookup ("halves" : Str) = none := by kernel_rfl
theorem no_KeyTree_child_place {v0 v1 v2 : V} : (F_KeyTree v0 v1 v2).lookup ("child_place" : Str) = none := by kernel_rfl
theorem ni_KeyTree_child_place_1 {v0 : V} : (F_KeyTree1 v0).lookup ("child_place" : Str) = none := by kernel_rfl
theorem ni_KeyTree_child_place_2 {v0 v1 : V} : (F_KeyTree2 v0 v1).lookup ("child_place" : Str) = none := by kernel_rfl
theorem no_KeyTree_path_to {v0 v1 v2 : V} : (F_KeyTree v0 v1 v2).lookup ("path_to" : Str) = none := by kernel_rfl
theorem ni_KeyTree_path_to_1 {v0 : V} : (F_KeyTree1 v0).lookup ("path_to" : Str) = none := by kernel_rfl
theorem ni_KeyTree_path_to_2 {v0 v1 : V} : (F_KeyTree2 v0 v1).lookup ("path_to" : Str) = none := by kernel_rfl
theorem no_KeyTree_save {v0 v1 v2 : V} : (F_KeyTree v0 v1 v2).lookup ("save" : Str) = none := by kernel_rfl
theorem ni_KeyTree_save_1 {v0 : V} : (F_KeyTree1 v0).lookup ("save" : Str) = none := by kernel_rfl
theorem ni_KeyTree_save_2 {v0 v1 : V} : (F_KeyTree2 v0 v1).lookup ("save" : Str) = none := by kernel_rfl
theorem no_KeyTree_insert {v0 v1 v2 : V} : (F_KeyTree v0 v1 v2).lookup ("insert" : Str) = none := by kernel_rfl
theorem ni_KeyTree_insert_1 {v0 : V} : (F_KeyTree1 v0).lookup ("insert" : Str) = none := by kernel_rfl
theorem ni_KeyTree_insert_2 {v0 v1 : V} : (F_KeyTree2 v0 v1).lookup ("insert" : Str) = none := by kernel_rfl
theorem no_KeyTree_replace {v0 v1 v2 : V} : (F_KeyTree v0 v1 v2).lookup ("replace" : Str) = none := by kernel_rfl
theorem ni_KeyTree_replace_1 {v0 : V} : (F_KeyTree1 v0).lookup ("replace" : Str) = none := by kernel_rfl
theorem ni_KeyTree_replace_2 {v0 v1 : V} : (F_KeyTree2 v0 v1).lookup ("replace" : Str) = none := by kernel_rfl
theorem no_KeyTree_delete {v0 v1 v2 : V} : (F_KeyTree v0 v1 v2).lookup ("delete" : Str) = none := by kernel_rfl
theorem ni_KeyTree_delete_1 {v0 : V} : (F_KeyTree1 v0).lookup ("delete" : Str) = none := by kernel_rfl
theorem ni_KeyTree_delete_2 {v0 v1 : V} : (F_KeyTree2 v0 v1).lookup ("delete" : Str) = none := by kernel_rfl
theorem no_KeyTree_lower {v0 v1 v2 : V} : (F_KeyTree v0 v1 v2).lookup ("lower" : Str) = none := by kernel_rfl
theorem ni_KeyTree_lower_1 {v0 : V} : (F_KeyTree1 v0).lookup ("lower" : Str) = none := by kernel_rfl
theorem ni_KeyTree_lower_2 {v0 v1 : V} : (F_KeyTree2 v0 v1).lookup ("lower" : Str) = none := by kernel_rfl
theorem no_KeyTree_entries {v0 v1 v2 : V} : (F_KeyTree v0 v1 v2).lookup ("entries" : Str) = none := by kernel_rfl
theorem ni_KeyTree_entries_1 {v0 : V} : (F_KeyTree1 v0).lookup ("entries" : Str) = none := by kernel_rfl
theorem ni_KeyTree_entries_2 {v0 v1 : V} : (F_KeyTree2 v0 v1).lookup ("entries" : Str) = none := by kernel_rfl
theorem no_KeyTree_pages {v0 v1 v2 : V} : (F_KeyTree v0 v1 v2).lookup ("pages" : Str) = none := by kernel_rfl
theorem ni_KeyTree_pages_1 {v0 : V} : (F_KeyTree1 v0).lookup ("pages" : Str) = none := by kernel_rfl
theorem ni_KeyTree_pages_2 {v0 v1 : V} : (F_KeyTree2 v0 v1).lookup ("pages" : Str) = none := by kernel_rfl
def F_Pager1 (v0 : V) : List (Str × V) := [("device", v0)]
def F_Pager2 (v0 v1 : V) : List (Str × V) := [("device", v0), ("committed", v1)]
def F_Pager (v0 v1 v2 : V) : List (Str × V) := [("device", v0), ("committed", v1), ("dirty", v2)]
theorem lk_Pager_device {v0 v1 v2 : V} : (F_Pager v0 v1 v2).lookup ("device" : Str) = some v0 := by kernel_rfl
theorem pt_Pager_device {v0 v1 v2 : V} {u : V} : putF "device" u (F_Pager v0 v1 v2) = (F_Pager u v1 v2) := by kernel_rfl
theorem pi_Pager_device {v0 : V} : putF "device" v0 ([] : List (Str × V)) = (F_Pager1 v0) := by kernel_rfl
theorem ln_Pager_1 {v0 : V} : (F_Pager1 v0).length < 1000 := by show 1 < 1000; decide
theorem lk_Pager_committed {v0 v1 v2 : V} : (F_Pager v0 v1 v2).lookup ("committed" : Str) = some v1 := by kernel_rfl
theorem pt_Pager_committed {v0 v1 v2 : V} {u : V} : putF "committed" u (F_Pager v0 v1 v2) = (F_Pager v0 u v2) := by kernel_rfl
theorem pi_Pager_committed {v0 v1 : V} : putF "committed" v1 (F_Pager1 v0) = (F_Pager2 v0 v1) := by kernel_rfl
theorem li_Pager_device_1 {v0 : V} : (F_Pager1 v0).lookup ("device" : Str) = some v0 := by kernel_rfl
theorem ln_Pager_2 {v0 v1 : V} : (F_Pager2 v0 v1).length < 1000 := by show 2 < 1000; decide
theorem lk_Pager_dirty {v0 v1 v2 : V} : (F_Pager v0 v1 v2).lookup ("dirty" : Str) = some v2 := by kernel_rfl
theorem pt_Pager_dirty {v0 v1 v2 : V} {u : V} : putF "dirty" u (F_Pager v0 v1 v2) = (F_Pager v0 v1 u) := by kernel_rfl
theorem pi_Pager_dirty {v0 v1 v2 : V} : putF "dirty" v2 (F_Pager2 v0 v1) = (F_Pager v0 v1 v2) := by kernel_rfl
theorem li_Pager_device_2 {v0 v1 : V} : (F_Pager2 v0 v1).lookup ("device" : Str) = some v0 := by kernel_rfl
theorem li_Pager_committed_2 {v0 v1 : V} : (F_Pager2 v0 v1).lookup ("committed" : Str) = some v1 := by kernel_rfl
theorem ln_Pager_3 {v0 v1 v2 : V} : (F_Pager v0 v1 v2).length < 1000 := by show 3 < 1000; decide
theorem no_Pager_count_head {v0 v1 v2 : V} : (F_Pager v0 v1 v2).lookup ("count_head" : Str) = none := by kernel_rfl
theorem ni_Pager_count_head_1 {v0 : V} : (F_Pager1 v0).lookup ("count_head" : Str) = none := by kernel_rfl
theorem ni_Pager_count_head_2 {v0 v1 : V} : (F_Pager2 v0 v1).lookup ("count_head" : Str) = none := by kernel_rfl
theorem no_Pager_read {v0 v1 v2 : V} : (F_Pager v0 v1 v2).lookup ("read" : Str) = none := by kernel_rfl
theorem ni_Pager_read_1 {v0 : V} : (F_Pager1 v0).lookup ("read" : Str) = none := by kernel_rfl
theorem ni_Pager_read_2 {v0 v1 : V} : (F_Pager2 v0 v1).lookup ("read" : Str) = none := by kernel_rfl
theorem no_Pager_write {v0 v1 v2 : V} : (F_Pager v0 v1 v2).lookup ("write" : Str) = none := by kernel_rfl
theorem ni_Pager_write_1 {v0 : V} : (F_Pager1 v0).lookup ("write" : Str) = none := by kernel_rfl
theorem ni_Pager_write_2 {v0 v1 : V} : (F_Pager2 v0 v1).lookup ("write" : Str) = none := by kernel_rfl
theorem no_Pager_field {v0 v1 v2 : V} : (F_Pager v0 v1 v2).lookup ("field" : Str) = none := by kernel_rfl
theorem ni_Pager_field_1 {v0 : V} : (F_Pager1 v0).lookup ("field" : Str) = none := by kernel_rfl
theorem ni_Pager_field_2 {v0 v1 : V} : (F_Pager2 v0 v1).lookup ("field" : Str) = none := by kernel_rfl
theorem no_Pager_set_field {v0 v1 v2 : V} : (F_Pager v0 v1 v2).lookup ("set_field" : Str) = none := by kernel_rfl
theorem ni_Pager_set_field_1 {v0 : V} : (F_Pager1 v0).lookup ("set_field" : Str) = none := by kernel_rfl
theorem ni_Pager_set_field_2 {v0 v1 : V} : (F_Pager2 v0 v1).lookup ("set_field" : Str) = none := by kernel_rfl
theorem no_Pager_allocate {v0 v1 v2 : V} : (F_Pager v0 v1 v2).lookup ("allocate" : Str) = none := by kernel_rfl
theorem ni_Pager_allocate_1 {v0 : V} : (F_Pager1 v0).lookup ("allocate" : Str) = none := by kernel_rfl
theorem ni_Pager_allocate_2 {v0 v1 : V} : (F_Pager2 v0 v1).lookup ("allocate" : Str) = none := by kernel_rfl
theorem no_Pager_release {v0 v1 v2 : V} : (F_Pager v0 v1 v2).lookup ("release" : Str) = none := by kernel_rfl
theorem ni_Pager_release_1 {v0 : V} : (F_Pager1 v0).lookup ("release" : Str) = none := by kernel_rfl
theorem ni_Pager_release_2 {v0 v1 : V} : (F_Pager2 v0 v1).lookup ("release" : Str) = none := by kernel_rfl
theorem no_Pager_commit {v0 v1 v2 : V} : (F_Pager v0 v1 v2).lookup ("commit" : Str) = none := by kernel_rfl
theorem ni_Pager_commit_1 {v0 : V} : (F_Pager1 v0).lookup ("commit" : Str) = none := by kernel_rfl
theorem ni_Pager_commit_2 {v0 v1 : V} : (F_Pager2 v0 v1).lookup ("commit" : Str) = none := by kernel_rfl
theorem no_Pager_checkpoint {v0 v1 v2 : V} : (F_Pager v0 v1 v2).lookup ("checkpoint" : Str) = none := by kernel_rfl
theorem ni_Pager_checkpoint_1 {v0 : V} : (F_Pager1 v0).lookup ("checkpoint" : Str) = none := by kernel_rfl
theorem ni_Pager_checkpoint_2 {v0 v1 : V} : (F_Pager2 v0 v1).lookup ("checkpoint" : Str) = none := by kernel_rfl
theorem no_Pager_rollback {v0 v1 v2 : V} : (F_Pager v0 v1 v2).lookup ("rollback" : Str) = none := by kernel_rfl
theorem ni_Pager_rollback_1 {v0 : V} : (F_Pager1 v0).lookup ("rollback" : Str) = none := by kernel_rfl
theorem ni_Pager_rollback_2 {v0 v1 : V} : (F_Pager2 v0 v1).lookup ("rollback" : Str) = none := by kernel_rfl
local macro_rules | `(tactic| walk_at "lk") => `(tactic| with_reducible first | exact lk_Device_pages | exact lk_Device_page_writes | exact li_Device_pages_1 | exact lk_Device_durable_log | exact li_Device_pages_2 | exact li_Device_page_writes_2 | exact lk_Device_log_steps | exact li_Device_pages_3 | exact li_Device_page_writes_3 | exact li_Device_durable_log_3 | exact lk_Device_done | exact li_Device_pages_4 | exact li_Device_page_writes_4 | exact li_Device_durable_log_4 | exact li_Device_log_steps_4 | exact lk_Device_most | exact li_Device_pages_5 | exact li_Device_page_writes_5 | exact li_Device_durable_log_5 | exact li_Device_log_steps_5 | exact li_Device_done_5 | exact lk_KeyTree_pager | exact lk_KeyTree_root | exact li_KeyTree_pager_1 | exact lk_KeyTree_dimensions | exact li_KeyTree_pager_2 | exact li_KeyTree_root_2 | exact lk_Pager_device | exact lk_Pager_committed | exact li_Pager_device_1 | exact lk_Pager_dirty | exact li_Pager_device_2 | exact li_Pager_committed_2)
local macro_rules | `(tactic| walk_at "pt") => `(tactic| with_reducible first | exact pt_Device_pages | exact pi_Device_pages | exact pt_Device_page_writes | exact pi_Device_page_writes | exact pt_Device_durable_log | exact pi_Device_durable_log | exact pt_Device_log_steps | exact pi_Device_log_steps | exact pt_Device_done | exact pi_Device_done | exact pt_Device_most | exact pi_Device_most | exact pt_KeyTree_pager | exact pi_KeyTree_pager | exact pt_KeyTree_root | exact pi_KeyTree_root | exact pt_KeyTree_dimensions | exact pi_KeyTree_dimensions | exact pt_Pager_device | exact pi_Pager_device | exact pt_Pager_committed | exact pi_Pager_committed | exact pt_Pager_dirty | exact pi_Pager_dirty)
local macro_rules | `(tactic| walk_at "no") => `(tactic| with_reducible first | exact no_Device_step | exact ni_Device_step_1 | exact ni_Device_step_2 | exact ni_Device_step_3 | exact ni_Device_step_4 | exact ni_Device_step_5 | exact no_Device_write_page | exact ni_Device_write_page_1 | exact ni_Device_write_page_2 | exact ni_Device_write_page_3 | exact ni_Device_write_page_4 | exact ni_Device_write_page_5 | exact no_Device_sync_pages | exact ni_Device_sync_pages_1 | exact ni_Device_sync_pages_2 | exact ni_Device_sync_pages_3 | exact ni_Device_sync_pages_4 | exact ni_Device_sync_pages_5 | exact no_Device_append | exact ni_Device_append_1 | exact ni_Device_append_2 | exact ni_Device_append_3 | exact ni_Device_append_4 | exact ni_Device_append_5 | exact no_Device_clear | exact ni_Device_clear_1 | exact ni_Device_clear_2 | exact ni_Device_clear_3 | exact ni_Device_clear_4 | exact ni_Device_clear_5 | exact no_Device_sync_log | exact ni_Device_sync_log_1 | exact ni_Device_sync_log_2 | exact ni_Device_sync_log_3 | exact ni_Device_sync_log_4 | exact ni_Device_sync_log_5 | exact no_Device_durable_page | exact ni_Device_durable_page_1 | exact ni_Device_durable_page_2 | exact ni_Device_durable_page_3 | exact ni_Device_durable_page_4 | exact ni_Device_durable_page_5 | exact no_Device_page | exact ni_Device_page_1 | exact ni_Device_page_2 | exact ni_Device_page_3 | exact ni_Device_page_4 | exact ni_Device_page_5 | exact no_Device_log | exact ni_Device_log_1 | exact ni_Device_log_2 | exact ni_Device_log_3 | exact ni_Device_log_4 | exact ni_Device_log_5 | exact no_Device_limit | exact ni_Device_limit_1 | exact ni_Device_limit_2 | exact ni_Device_limit_3 | exact ni_Device_limit_4 | exact ni_Device_limit_5 | exact no_Device_crash | exact ni_Device_crash_1 | exact ni_Device_crash_2 | exact ni_Device_crash_3 | exact ni_Device_crash_4 | exact ni_Device_crash_5 | exact no_Device_steps | exact ni_Device_steps_1 | exact ni_Device_steps_2 | exact ni_Device_steps_3 | exact ni_Device_steps_4 | exact ni_Device_steps_5 | exact no_Device_pending | exact ni_Device_pending_1 | exact ni_Device_pending_2 | exact ni_Device_pending_3 | exact ni_Device_pending_4 | exact ni_Device_pending_5 | exact no_KeyTree_write_entry | exact ni_KeyTree_write_entry_1 | exact ni_KeyTree_write_entry_2 | exact no_KeyTree_write_item | exact ni_KeyTree_write_item_1 | exact ni_KeyTree_write_item_2 | exact no_KeyTree_load | exact ni_KeyTree_load_1 | exact ni_KeyTree_load_2 | exact no_KeyTree_bytes_of | exact ni_KeyTree_bytes_of_1 | exact ni_KeyTree_bytes_of_2 | exact no_KeyTree_store | exact ni_KeyTree_store_1 | exact ni_KeyTree_store_2 | exact no_KeyTree_too_large | exact ni_KeyTree_too_large_1 | exact ni_KeyTree_too_large_2 | exact no_KeyTree_halves | exact ni_KeyTree_halves_1 | exact ni_KeyTree_halves_2 | exact no_KeyTree_child_place | exact ni_KeyTree_child_place_1 | exact ni_KeyTree_child_place_2 | exact no_KeyTree_path_to | exact ni_KeyTree_path_to_1 | exact ni_KeyTree_path_to_2 | exact no_KeyTree_save | exact ni_KeyTree_save_1 | exact ni_KeyTree_save_2 | exact no_KeyTree_insert | exact ni_KeyTree_insert_1 | exact ni_KeyTree_insert_2 | exact no_KeyTree_replace | exact ni_KeyTree_replace_1 | exact ni_KeyTree_replace_2 | exact no_KeyTree_delete | exact ni_KeyTree_delete_1 | exact ni_KeyTree_delete_2 | exact no_KeyTree_lower | exact ni_KeyTree_lower_1 | exact ni_KeyTree_lower_2 | exact no_KeyTree_entries | exact ni_KeyTree_entries_1 | exact ni_KeyTree_entries_2 | exact no_KeyTree_pages | exact ni_KeyTree_pages_1 | exact ni_KeyTree_pages_2 | exact no_Pager_count_head | exact ni_Pager_count_head_1 | exact ni_Pager_count_head_2 | exact no_Pager_read | exact ni_Pager_read_1 | exact ni_Pager_read_2 | exact no_Pager_write | exact ni_Pager_write_1 | exact ni_Pager_write_2 | exact no_Pager_field | exact ni_Pager_field_1 | exact ni_Pager_field_2 | exact no_Pager_set_field | exact ni_Pager_set_field_1 | exact ni_Pager_set_field_2 | exact no_Pager_allocate | exact ni_Pager_allocate_1 | exact ni_Pager_allocate_2 | exact no_Pager_release | exact ni_Pager_release_1 | exact ni_Pager_release_2 | exact no_Pager_commit | exact ni_Pager_commit_1 | exact ni_Pager_commit_2 | exact no_Pager_checkpoint | exact ni_Pager_checkpoint_1 | exact ni_Pager_checkpoint_2 | exact no_Pager_rollback | exact ni_Pager_rollback_1 | exact ni_Pager_rollback_2 | exact rfl)
local macro_rules | `(tactic| walk_at "ln") => `(tactic| first | (with_reducible first | exact ln_Device_1 | exact ln_Device_2 | exact ln_Device_3 | exact ln_Device_4 | exact ln_Device_5 | exact ln_Device_6 | exact ln_KeyTree_1 | exact ln_KeyTree_2 | exact ln_KeyTree_3 | exact ln_Pager_1 | exact ln_Pager_2 | exact ln_Pager_3) | (show 0 < 1000; decide))
def RD_model (v0 v1 v2 : V) : List (Key × V) := [(.inr "pages", v0), (.inr "many", v1), (.inr "free", v2)]
theorem rv_model_pages {v0 v1 v2 : V} : valV (RD_model v0 v1 v2) (.inr "pages") = some v0 := by kernel_rfl
theorem rp_model_pages {v0 v1 v2 u : V} : putK (RD_model v0 v1 v2) (.inr "pages") u = RD_model u v1 v2 := by kernel_rfl
theorem rv_model_many {v0 v1 v2 : V} : valV (RD_model v0 v1 v2) (.inr "many") = some v1 := by kernel_rfl
theorem rp_model_many {v0 v1 v2 u : V} : putK (RD_model v0 v1 v2) (.inr "many") u = RD_model v0 u v2 := by kernel_rfl
theorem rv_model_free {v0 v1 v2 : V} : valV (RD_model v0 v1 v2) (.inr "free") = some v2 := by kernel_rfl
theorem rp_model_free {v0 v1 v2 u : V} : putK (RD_model v0 v1 v2) (.inr "free") u = RD_model v0 v1 u := by kernel_rfl
theorem rm_model {v0 v1 v2 : V} : mergeK [] (RD_model v0 v1 v2) = RD_model v0 v1 v2 := by kernel_rfl
local macro_rules | `(tactic| walk_at "rv") => `(tactic| with_reducible first | exact rv_model_pages | exact rv_model_many | exact rv_model_free)
local macro_rules | `(tactic| walk_at "rp") => `(tactic| with_reducible first | exact rp_model_pages | exact rp_model_many | exact rp_model_free)
/-- what the top has left -/
structure Txt (K : PySem.W.Frag) (mg : Str → Option Value) (c : Cl) : Prop where
  f__wall : ∃ f fd, Fun K "_wall" "_wall" s__wall f fd ∧ mg "_wall" = some (.ref f)
  f_Device___init__ : ∃ f fd, Fun K "__init__" "Device.__init__" s_Device___init__ f fd ∧ PySem.W.findIn K (.ref c.Device) "__init__" = some (some (.ref f)) ∧ PySem.W.isFn K (.ref f) = true
  f_Device_step : ∃ f fd, Fun K "step" "Device.step" s_Device_step f fd ∧ PySem.W.findIn K (.ref c.Device) "step" = some (some (.ref f)) ∧ PySem.W.isFn K (.ref f) = true
  f_Device_write_page : ∃ f fd, Fun K "write_page" "Device.write_page" s_Device_write_page f fd ∧ PySem.W.findIn K (.ref c.Device) "write_page" = some (some (.ref f)) ∧ PySem.W.isFn K (.ref f) = true
  f_Device_sync_pages : ∃ f fd, Fun K "sync_pages" "Device.sync_pages" s_Device_sync_pages f fd ∧ PySem.W.findIn K (.ref c.Device) "sync_pages" = some (some (.ref f)) ∧ PySem.W.isFn K (.ref f) = true
  f_Device_append : ∃ f fd, Fun K "append" "Device.append" s_Device_append f fd ∧ PySem.W.findIn K (.ref c.Device) "append" = some (some (.ref f)) ∧ PySem.W.isFn K (.ref f) = true
  f_Device_clear : ∃ f fd, Fun K "clear" "Device.clear" s_Device_clear f fd ∧ PySem.W.findIn K (.ref c.Device) "clear" = some (some (.ref f)) ∧ PySem.W.isFn K (.ref f) = true
  f_Device_sync_log : ∃ f fd, Fun K "sync_log" "Device.sync_log" s_Device_sync_log f fd ∧ PySem.W.findIn K (.ref c.Device) "sync_log" = some (some (.ref f)) ∧ PySem.W.isFn K (.ref f) = true
  f_Device_durable_page : ∃ f fd, Fun K "durable_page" "Device.durable_page" s_Device_durable_page f fd ∧ PySem.W.findIn K (.ref c.Device) "durable_page" = some (some (.ref f)) ∧ PySem.W.isFn K (.ref f) = true
  f_Device_page : ∃ f fd, Fun K "page" "Device.page" s_Device_page f fd ∧ PySem.W.findIn K (.ref c.Device) "page" = some (some (.ref f)) ∧ PySem.W.isFn K (.ref f) = true
  f_Device_log : ∃ f fd, Fun K "log" "Device.log" s_Device_log f fd ∧ PySem.W.findIn K (.ref c.Device) "log" = some (some (.ref f)) ∧ PySem.W.isFn K (.ref f) = true
  f_Device_limit : ∃ f fd, Fun K "limit" "Device.limit" s_Device_limit f fd ∧ PySem.W.findIn K (.ref c.Device) "limit" = some (some (.ref f)) ∧ PySem.W.isFn K (.ref f) = true
  f_Device_crash : ∃ f fd, Fun K "crash" "Device.crash" s_Device_crash f fd ∧ PySem.W.findIn K (.ref c.Device) "crash" = some (some (.ref f)) ∧ PySem.W.isFn K (.ref f) = true
  f_Device_steps : ∃ f fd, Fun K "steps" "Device.steps" s_Device_steps f fd ∧ PySem.W.findIn K (.ref c.Device) "steps" = some (some (.ref f)) ∧ PySem.W.isFn K (.ref f) = true
  f_Device_pending : ∃ f fd, Fun K "pending" "Device.pending" s_Device_pending f fd ∧ PySem.W.findIn K (.ref c.Device) "pending" = some (some (.ref f)) ∧ PySem.W.isFn K (.ref f) = true
  f_write_number : ∃ f fd, Fun K "write_number" "write_number" s_write_number f fd ∧ mg "write_number" = some (.ref f)
  f_read_number : ∃ f fd, Fun K "read_number" "read_number" s_read_number f fd ∧ mg "read_number" = some (.ref f)
  f_write_point : ∃ f fd, Fun K "write_point" "write_point" s_write_point f fd ∧ mg "write_point" = some (.ref f)
  f_read_point : ∃ f fd, Fun K "read_point" "read_point" s_read_point f fd ∧ mg "read_point" = some (.ref f)
  f_pair_of : ∃ f fd, Fun K "pair_of" "pair_of" s_pair_of f fd ∧ mg "pair_of" = some (.ref f)
  f_filled : ∃ f fd, Fun K "filled" "filled" s_filled f fd ∧ mg "filled" = some (.ref f)
  f_KeyTree___init__ : ∃ f fd, Fun K "__init__" "KeyTree.__init__" s_KeyTree___init__ f fd ∧ PySem.W.findIn K (.ref c.KeyTree) "__init__" = some (some (.ref f)) ∧ PySem.W.isFn K (.ref f) = true
  f_KeyTree_write_entry : ∃ f fd, Fun K "write_entry" "KeyTree.write_entry" s_KeyTree_write_entry f fd ∧ PySem.W.findIn K (.ref c.KeyTree) "write_entry" = some (some (.ref f)) ∧ PySem.W.isFn K (.ref f) = true
  f_KeyTree_write_item : ∃ f fd, Fun K "write_item" "KeyTree.write_item" s_KeyTree_write_item f fd ∧ PySem.W.findIn K (.ref c.KeyTree) "write_item" = some (some (.ref f)) ∧ PySem.W.isFn K (.ref f) = true
  f_KeyTree_load : ∃ f fd, Fun K "load" "KeyTree.load" s_KeyTree_load f fd ∧ PySem.W.findIn K (.ref c.KeyTree) "load" = some (some (.ref f)) ∧ PySem.W.isFn K (.ref f) = true
  f_KeyTree_bytes_of : ∃ f fd, Fun K "bytes_of" "KeyTree.bytes_of" s_KeyTree_bytes_of f fd ∧ PySem.W.findIn K (.ref c.KeyTree) "bytes_of" = some (some (.ref f)) ∧ PySem.W.isFn K (.ref f) = true
  f_KeyTree_store : ∃ f fd, Fun K "store" "KeyTree.store" s_KeyTree_store f fd ∧ PySem.W.findIn K (.ref c.KeyTree) "store" = some (some (.ref f)) ∧ PySem.W.isFn K (.ref f) = true
  f_KeyTree_too_large : ∃ f fd, Fun K "too_large" "KeyTree.too_large" s_KeyTree_too_large f fd ∧ PySem.W.findIn K (.ref c.KeyTree) "too_large" = some (some (.ref f)) ∧ PySem.W.isFn K (.ref f) = true
  f_KeyTree_halves : ∃ f fd, Fun K "halves" "KeyTree.halves" s_KeyTree_halves f fd ∧ PySem.W.findIn K (.ref c.KeyTree) "halves" = some (some (.ref f)) ∧ PySem.W.isFn K (.ref f) = true
  f_KeyTree_child_place : ∃ f fd, Fun K "child_place" "KeyTree.child_place" s_KeyTree_child_place f fd ∧ PySem.W.findIn K (.ref c.KeyTree) "child_place" = some (some (.ref f)) ∧ PySem.W.isFn K (.ref f) = true
  f_KeyTree_path_to : ∃ f fd, Fun K "path_to" "KeyTree.path_to" s_KeyTree_path_to f fd ∧ PySem.W.findIn K (.ref c.KeyTree) "path_to" = some (some (.ref f)) ∧ PySem.W.isFn K (.ref f) = true
  f_KeyTree_save : ∃ f fd, Fun K "save" "KeyTree.save" s_KeyTree_save f fd ∧ PySem.W.findIn K (.ref c.KeyTree) "save" = some (some (.ref f)) ∧ PySem.W.isFn K (.ref f) = true
  f_KeyTree_insert : ∃ f fd, Fun K "insert" "KeyTree.insert" s_KeyTree_insert f fd ∧ PySem.W.findIn K (.ref c.KeyTree) "insert" = some (some (.ref f)) ∧ PySem.W.isFn K (.ref f) = true
  f_KeyTree_replace : ∃ f fd, Fun K "replace" "KeyTree.replace" s_KeyTree_replace f fd ∧ PySem.W.findIn K (.ref c.KeyTree) "replace" = some (some (.ref f)) ∧ PySem.W.isFn K (.ref f) = true
  f_KeyTree_delete : ∃ f fd, Fun K "delete" "KeyTree.delete" s_KeyTree_delete f fd ∧ PySem.W.findIn K (.ref c.KeyTree) "delete" = some (some (.ref f)) ∧ PySem.W.isFn K (.ref f) = true
  f_KeyTree_lower : ∃ f fd, Fun K "lower" "KeyTree.lower" s_KeyTree_lower f fd ∧ PySem.W.findIn K (.ref c.KeyTree) "lower" = some (some (.ref f)) ∧ PySem.W.isFn K (.ref f) = true
  f_KeyTree_entries : ∃ f fd, Fun K "entries" "KeyTree.entries" s_KeyTree_entries f fd ∧ PySem.W.findIn K (.ref c.KeyTree) "entries" = some (some (.ref f)) ∧ PySem.W.isFn K (.ref f) = true
  f_KeyTree_pages : ∃ f fd, Fun K "pages" "KeyTree.pages" s_KeyTree_pages f fd ∧ PySem.W.findIn K (.ref c.KeyTree) "pages" = some (some (.ref f)) ∧ PySem.W.isFn K (.ref f) = true
  f_read_groups : ∃ f fd, Fun K "read_groups" "read_groups" s_read_groups f fd ∧ mg "read_groups" = some (.ref f)
  f_Pager___init__ : ∃ f fd, Fun K "__init__" "Pager.__init__" s_Pager___init__ f fd ∧ PySem.W.findIn K (.ref c.Pager) "__init__" = some (some (.ref f)) ∧ PySem.W.isFn K (.ref f) = true
  f_Pager_count_head : ∃ f fd, Fun K "count_head" "Pager.count_head" s_Pager_count_head f fd ∧ PySem.W.findIn K (.ref c.Pager) "count_head" = some (some (.ref f)) ∧ PySem.W.isFn K (.ref f) = true
  f_Pager_read : ∃ f fd, Fun K "read" "Pager.read" s_Pager_read f fd ∧ PySem.W.findIn K (.ref c.Pager) "read" = some (some (.ref f)) ∧ PySem.W.isFn K (.ref f) = true
  f_Pager_write : ∃ f fd, Fun K "write" "Pager.write" s_Pager_write f fd ∧ PySem.W.findIn K (.ref c.Pager) "write" = some (some (.ref f)) ∧ PySem.W.isFn K (.ref f) = true
  f_Pager_field : ∃ f fd, Fun K "field" "Pager.field" s_Pager_field f fd ∧ PySem.W.findIn K (.ref c.Pager) "field" = some (some (.ref f)) ∧ PySem.W.isFn K (.ref f) = true
  f_Pager_set_field : ∃ f fd, Fun K "set_field" "Pager.set_field" s_Pager_set_field f fd ∧ PySem.W.findIn K (.ref c.Pager) "set_field" = some (some (.ref f)) ∧ PySem.W.isFn K (.ref f) = true
  f_Pager_allocate : ∃ f fd, Fun K "allocate" "Pager.allocate" s_Pager_allocate f fd ∧ PySem.W.findIn K (.ref c.Pager) "allocate" = some (some (.ref f)) ∧ PySem.W.isFn K (.ref f) = true
  f_Pager_release : ∃ f fd, Fun K "release" "Pager.release" s_Pager_release f fd ∧ PySem.W.findIn K (.ref c.Pager) "release" = some (some (.ref f)) ∧ PySem.W.isFn K (.ref f) = true
  f_Pager_commit : ∃ f fd, Fun K "commit" "Pager.commit" s_Pager_commit f fd ∧ PySem.W.findIn K (.ref c.Pager) "commit" = some (some (.ref f)) ∧ PySem.W.isFn K (.ref f) = true
  f_Pager_checkpoint : ∃ f fd, Fun K "checkpoint" "Pager.checkpoint" s_Pager_checkpoint f fd ∧ PySem.W.findIn K (.ref c.Pager) "checkpoint" = some (some (.ref f)) ∧ PySem.W.isFn K (.ref f) = true
  f_Pager_rollback : ∃ f fd, Fun K "rollback" "Pager.rollback" s_Pager_rollback f fd ∧ PySem.W.findIn K (.ref c.Pager) "rollback" = some (some (.ref f)) ∧ PySem.W.isFn K (.ref f) = true
  f__law_draw : ∃ f fd, Fun K "_law_draw" "_law_draw" s__law_draw f fd ∧ mg "_law_draw" = some (.ref f)
  f__law_point : ∃ f fd, Fun K "_law_point" "_law_point" s__law_point f fd ∧ mg "_law_point" = some (.ref f)
  f__law_spanned : ∃ f fd, Fun K "_law_spanned" "_law_spanned" s__law_spanned f fd ∧ mg "_law_spanned" = some (.ref f)
  f__law_payload : ∃ f fd, Fun K "_law_payload" "_law_payload" s__law_payload f fd ∧ mg "_law_payload" = some (.ref f)
  f__law_bytes : ∃ f fd, Fun K "_law_bytes" "_law_bytes" s__law_bytes f fd ∧ mg "_law_bytes" = some (.ref f)
  f__law_entry : ∃ f fd, Fun K "_law_entry" "_law_entry" s__law_entry f fd ∧ mg "_law_entry" = some (.ref f)
  f__law_child : ∃ f fd, Fun K "_law_child" "_law_child" s__law_child f fd ∧ mg "_law_child" = some (.ref f)
  f__law_parts : ∃ f fd, Fun K "_law_parts" "_law_parts" s__law_parts f fd ∧ mg "_law_parts" = some (.ref f)
  f__law_taken : ∃ f fd, Fun K "_law_taken" "_law_taken" s__law_taken f fd ∧ mg "_law_taken" = some (.ref f)
  f__law_released : ∃ f fd, Fun K "_law_released" "_law_released" s__law_released f fd ∧ mg "_law_released" = some (.ref f)
  f__law_way : ∃ f fd, Fun K "_law_way" "_law_way" s__law_way f fd ∧ mg "_law_way" = some (.ref f)
  f__law_split_place : ∃ f fd, Fun K "_law_split_place" "_law_split_place" s__law_split_place f fd ∧ mg "_law_split_place" = some (.ref f)
  f__law_settled : ∃ f fd, Fun K "_law_settled" "_law_settled" s__law_settled f fd ∧ mg "_law_settled" = some (.ref f)
  f__law_lowered : ∃ f fd, Fun K "_law_lowered" "_law_lowered" s__law_lowered f fd ∧ mg "_law_lowered" = some (.ref f)
  f__law_deleted : ∃ f fd, Fun K "_law_deleted" "_law_deleted" s__law_deleted f fd ∧ mg "_law_deleted" = some (.ref f)
  f__law_page : ∃ f fd, Fun K "_law_page" "_law_page" s__law_page f fd ∧ mg "_law_page" = some (.ref f)
  f__law_same : ∃ f fd, Fun K "_law_same" "_law_same" s__law_same f fd ∧ mg "_law_same" = some (.ref f)
  f__law_new : ∃ f fd, Fun K "_law_new" "_law_new" s__law_new f fd ∧ mg "_law_new" = some (.ref f)
  f__law_inserted : ∃ f fd, Fun K "_law_inserted" "_law_inserted" s__law_inserted f fd ∧ mg "_law_inserted" = some (.ref f)
  f__law_step : ∃ f fd, Fun K "_law_step" "_law_step" s__law_step f fd ∧ mg "_law_step" = some (.ref f)
  f_law : ∃ f fd, Fun K "law" "law" s_law f fd ∧ mg "law" = some (.ref f)
  m_PAGE_SIZE : ∃ t, mg "PAGE_SIZE" = some (.int 256 t)
  m_OFFSET : ∃ t, mg "OFFSET" = some (.int 32768 t)
  m_LEAF : ∃ t, mg "LEAF" = some (.int 1 t)
  m_INNER : ∃ t, mg "INNER" = some (.int 2 t)
  m_MOST_CHILDREN : ∃ t, mg "MOST_CHILDREN" = some (.int 20 t)
  m_CHILD_SIZE : ∃ t, mg "CHILD_SIZE" = some (.int 12 t)
  m_NUMBER_SIZE : ∃ t, mg "NUMBER_SIZE" = some (.int 4 t)
  m_FIELD_SIZE : ∃ t, mg "FIELD_SIZE" = some (.int 4 t)
  m_PAGES : ∃ t, mg "PAGES" = some (.int 6 t)
  m_FREE : ∃ t, mg "FREE" = some (.int 7 t)
  z_ValueError : mg "ValueError" = none
  z_int : mg "int" = none
  z_len : mg "len" = none
  z_list : mg "list" = none
  z_range : mg "range" = none
  z_reversed : mg "reversed" = none
  z_sorted : mg "sorted" = none
  z_sum : mg "sum" = none
  z_tuple : mg "tuple" = none
  ex_VaultError : ExT K mg "VaultError" c.VaultError
  ex_PowerCut : ExT K mg "PowerCut" c.PowerCut
  cl_Device : Cls K c.Device
  mk_Device : PySem.W.makesIn K c.Device = true ∧ PySem.W.keepIn K (.ref c.Device) = true
  mg_Device : mg "Device" = some (.ref c.Device)
  n_Device_pages : NoAttr K c.Device "pages"
  n_Device_page_writes : NoAttr K c.Device "page_writes"
  n_Device_durable_log : NoAttr K c.Device "durable_log"
  n_Device_log_steps : NoAttr K c.Device "log_steps"
  n_Device_done : NoAttr K c.Device "done"
  n_Device_most : NoAttr K c.Device "most"
  cl_KeyTree : Cls K c.KeyTree
  mk_KeyTree : PySem.W.makesIn K c.KeyTree = true ∧ PySem.W.keepIn K (.ref c.KeyTree) = true
  mg_KeyTree : mg "KeyTree" = some (.ref c.KeyTree)
  n_KeyTree_pager : NoAttr K c.KeyTree "pager"
  n_KeyTree_root : NoAttr K c.KeyTree "root"
  n_KeyTree_dimensions : NoAttr K c.KeyTree "dimensions"
  cl_Pager : Cls K c.Pager
  mk_Pager : PySem.W.makesIn K c.Pager = true ∧ PySem.W.keepIn K (.ref c.Pager) = true
  mg_Pager : mg "Pager" = some (.ref c.Pager)
  n_Pager_device : NoAttr K c.Pager "device"
  n_Pager_committed : NoAttr K c.Pager "committed"
  n_Pager_dirty : NoAttr K c.Pager "dirty"
/-! ### the reading's steps -/
local macro_rules | `(tactic| walk_at "nf") => `(tactic| first | exact id | assumption | exact Ne.symm (by assumption) | exact ne_of (by assumption) (by assumption) (by intro z; cases z) | exact ne_of_none (by assumption) (by assumption) | exact Ne.symm (ne_of_none (by assumption) (by assumption)))
local macro_rules | `(tactic| walk_at "hp") => `(tactic| first | assumption | exact upd_same | (refine' Kp.get (by assumption) ?hpa ?hpn; (case hpa => walk_at "hp"); (case hpn => walk_at "nf")) | (refine' Kp.tup (by assumption) ?hpa; (case hpa => walk_at "hp")))
local macro_rules | `(tactic| walk_at "sq") => `(tactic| first | assumption | exact SqL.of (by assumption) | exact SqT.of (by assumption) | exact Sc.sq (by assumption) | (refine' SqL.of ?hps; (case hps => walk_at "hp")) | (refine' SqT.of ?hps; (case hps => walk_at "hp")))
local macro_rules | `(tactic| walk_at "rd1") => `(tactic| (first
  | ((with_reducible refine' x_var ?vv ?_); (case vv => exact rfl))
  | ((with_reducible refine' x_ixL ?h1 ?h2 ?_); (case h1 => walk_at "sq"); (case h2 => (first | exact rfl | assumption)))
  | ((with_reducible refine' x_setL ?h1 ?h2 ?_); (case h1 => walk_at "hp"); (case h2 => (first | exact rfl | assumption)))
  | ((with_reducible refine' x_ixT ?h1 ?h2 ?_); (case h1 => walk_at "sq"); (case h2 => (first | exact rfl | assumption)))
  | ((with_reducible refine' x_lenL ?h1 ?_); (case h1 => walk_at "sq"))
  | ((with_reducible refine' x_lenT ?h1 ?_); (case h1 => walk_at "sq"))
  | ((with_reducible refine' x_I ?h1 ?_); (case h1 => (first | exact .inr ⟨by decide, by decide⟩ | exact .inl ⟨by decide, by decide⟩ | omega | exact ⟨by decide, by decide, by decide⟩ | exact fdiv_ok (by omega) (by omega))))
  | ((with_reducible refine' x_rg1 ?h1 ?h2 ?_); (case h1 => omega); (case h2 => omega))
  | ((with_reducible refine' x_rg2 ?h1 ?_); (case h1 => omega))
  | ((with_reducible refine' x_ty ?h1 ?_); (case h1 => walk_at "hp"))
  | ((with_reducible refine' x_gt ?h1 ?h2 ?_); (case h1 => walk_at "sq"); (case h2 => exact rfl))
  | ((with_reducible refine' x_fld ?h1 ?h2 ?h3 ?h4 ?_); (case h1 => walk_at "hp"); (case h2 => assumption); (case h3 => assumption); (case h4 => walk_at "lk"))
  | ((with_reducible refine' x_sfl ?h1 ?h2 ?h3 ?h4 ?h5 ?_); (case h1 => walk_at "hp"); (case h2 => assumption); (case h3 => assumption); (case h4 => walk_at "ln"); (case h5 => walk_at "pt"))
  | ((with_reducible refine' x_augI ?h1 ?h2 ?h3 ?h4 ?_); (case h1 => walk_at "hp"); (case h2 => assumption); (case h3 => assumption); (case h4 => walk_at "lk"))
  | ((with_reducible refine' x_augP ?h1 ?h2 ?h3 ?_); (case h1 => walk_at "hp"); (case h2 => walk_at "ln"); (case h3 => walk_at "pt"))
  | ((with_reducible refine' x_mt ?h1 ?h2 ?_); (case h1 => walk_at "hp"); (case h2 => walk_at "no"))
  | ((with_reducible refine' x_dgS ?h1 ?h2 ?_); (case h1 => refine' Or.inl ?h3; walk_at "hp"); (case h2 => walk_at "rv"))
  | ((with_reducible refine' x_dpS ?h1 ?h2 ?h3 ?_); (case h1 => walk_at "hp"); (case h2 => walk_at "rp"); (case h3 => exact Nat.le_of_ble_eq_true rfl))
  | ((with_reducible refine' x_g2a ?h1 ?_); (case h1 => refine' Or.inl ?h3; walk_at "hp"))
  | ((with_reducible refine' x_g2b ?h1 ?_); (case h1 => refine' Or.inl ?h3; walk_at "hp"))
  | ((with_reducible refine' x_diI ?h1 ?_); (case h1 => refine' Or.inl ?h3; walk_at "hp"))
  | ((with_reducible refine' x_dnI ?h1 ?_); (case h1 => refine' Or.inl ?h3; walk_at "hp"))
  | ((with_reducible refine' x_rev ?h1 ?_); (case h1 => walk_at "sq"))
  | ((with_reducible refine' x_iL1 ?h1 ?_); (case h1 => walk_at "sq"))
  | ((with_reducible refine' x_iT1 ?h1 ?_); (case h1 => walk_at "sq"))
  | with_reducible first
  | refine x_seq ?_ | refine x_asg ?_ | refine x_ifS ?_ | refine x_tst ?_ | refine x_op ?_ | refine x_c ?_ | refine x_I0 ?_ | refine x_bl ?_
  | refine x_cb ?_ | refine x_cons ?_ | refine x_nil ?_ | refine x_ret ?_ | refine x_retN ?_ | refine x_drop ?_ | refine x_next ?_
  | refine x_eqI ?_ | refine x_neI ?_ | refine x_eqS ?_ | refine x_neS ?_ | refine x_eqB ?_ | refine x_neB ?_ | refine x_intI ?_ | refine x_intB ?_ | refine x_and ?_ | refine x_or ?_ | refine x_not ?_
  | refine x_andV ?_ | refine x_orV ?_ | refine x_notV ?_ | refine x_ifE ?_ | refine x_ch ?_ | refine x_tup ?_ | refine x_lst ?_ | refine x_callS ?_ | refine x_sub ?_ | refine x_un ?_ | refine x_neg ?_ | refine x_tB ?_ | refine x_tfld ?_ | refine x_tsf ?_ | refine x_aug ?_ | refine x_radd ?_ | refine x_rsub ?_ | refine x_tmt ?_ | refine x_mk ?_ | refine x_tdg ?_ | refine x_tdi ?_ | refine x_tdn ?_ | refine x_tg2 ?_ | refine x_tdp ?_ | refine x_irev ?_ | refine x_isNi ?_ | refine x_isNr ?_ | refine x_isNn ?_ | refine x_notNi ?_ | refine x_notNr ?_ | refine x_notNn ?_ | refine x_bm ?_ | refine x_bm0 ?_ | refine x_gc ?_ | refine x_g0 ?_ | refine x_and255 ?_ | refine x_ifNT ?_ | refine x_ifNF ?_ | refine x_yes ?_ | refine x_isiI ?_ | refine x_isiB ?_ | refine x_ifTT ?_ | refine x_ifFF ?_ | refine x_gn ?_ | refine x_for ?_ | refine x_lc ?_ | refine x_rng1 ?_ | refine x_rng2 ?_ | refine x_iL ?_ | refine x_iT ?_ | refine x_abs ?_ | refine x_max2 ?_ | refine x_min2 ?_ | refine x_sl ?_ | refine x_part ?_ | refine x_part1 ?_ | refine x_nopart ?_))
local macro_rules | `(tactic| walk_at "rd") => `(tactic| repeat walk_at "rd1")
local macro_rules | `(tactic| walk_at "cx") => `(tactic| dsimp only [cxOf, Cx.nox, Cx.wish, L2.start, List.map_cons, List.map_nil, List.length_cons, List.length_nil, List.reduceReplicate, List.cons_append, List.nil_append, Nat.reduceAdd, Nat.reduceSub])
/-! ### more steps -/
section
variable {K : PySem.W.Frag} {σ : L2.St} {H : Hp} {Q : VK} {D : Ends} {tc : TT} {tb : TS} {a : Addr}
theorem x_wh (Pv : Nat → L2.St → Hp → Prop) (h0 : ∃ m, Pv m σ H) (hs : ∀ m σ H, Pv m σ H → tc σ H fun b H1 => if b = true then ∃ N : L2.St → Hp → Prop, (∀ σ' H', N σ' H' → ∃ m', m' < m ∧ Pv m' σ' H') ∧ tb { nx := N, rt := D.rt, bk := D.nx, ct := N } σ H1 else D.nx σ H1) : tWhile tc tb D σ H :=
  ⟨Pv, h0, hs⟩
theorem x_augv {ti : TIp} {te : TE} {i : Nat} {x : V} (e : σ[i]? = some (some x)) (h : te σ H fun y H1 => ti x y H1 fun z H2 => D.nx (σ.set i (some z)) H2) : tAug i te ti D σ H := ⟨x, e, h⟩
theorem x_ipI {f : Int → Int → Int} {i j : Int} (h : Q (.int (f i j)) H) : ipI f (.int i) (.int j) H Q := ⟨i, j, rfl, rfl, h⟩
theorem x_isiR {T S : String} {b : Bool} (ht : TyX K H (.ref a) (.type T)) (hk : PySem.W.kitOne K (.type T) (.type S) = some b) (q : Q (.bl b) H) : rIsi K [.ref a, .ty S] H Q := ⟨_, _, _, _, b, rfl, .ty S, ht, hk, q⟩
theorem if_dtt {p A B : Prop} [Decidable p] (n : p) (h : A) : if decide p = true then A else B := by rw [if_pos (by simpa using n)]; exact h
theorem if_dff {p A B : Prop} [Decidable p] (n : ¬ p) (h : B) : if decide p = true then A else B := by rw [if_neg (by simpa using n)]; exact h
theorem x_cutN {D : Ends} {t u : TS} (h : t { D with nx := u D } σ H) : C8.tCut t u D σ H := ⟨u D, h, fun _ _ z => z⟩
end
/-- a comprehension whose list so far may tell of the heap: D the list's place -/
theorem wlcH {J : It} {G : Hp → Prop} {xs : List V} {g : TG} {tt : TT} {te : TE} {vs : List Nat} {σ : L2.St} {H0 : Hp} {Qd : Addr → Hp → Prop} (W : Wk J G xs) (F : Addr → Prop) (Pv : Addr → Nat → List V → Hp → Prop)
    (hF : ∀ b, F b → H0 b ≠ none) (hz : xs.length ≤ 100000) (hG : ∀ D i acc H', Pv D i acc H' → Kp F H0 H' → G H') (h0 : ∀ D, H0 D = none → Pv D 0 [] (upd H0 D (.lst []))) (hSt : ∀ D i acc H' H4, Kp (F1 D) H' H4 → Pv D i acc H' → Pv D i acc H4)
    (hs : ∀ D i x acc H' (R : V → Hp → Prop) (R0 : Hp → Prop), xs[i]? = some x → H0 D = none → H' D = some (.lst acc) → Pv D i acc H' → Kp F H0 H' → (∀ y H4, Kp F H' H4 → Pv D (i + 1) (acc ++ [y]) H4 → R y H4) → (∀ H4, Kp F H' H4 → Pv D (i + 1) acc H4 → R0 H4) →
      g x (wipe σ vs) H' fun σ2 H2 => wipe σ2 vs = wipe σ vs ∧ tt σ2 H2 fun b H3 => if b = true then te σ2 H3 R else R0 H3)
    (hd : ∀ D H' acc, H0 D = none → H' D = some (.lst acc) → Pv D xs.length acc H' → Kp F H0 H' → Qd D H') :
    ∀ D, H0 D = none → ∃ W : Nat → Nat → Hp → Prop, (∃ m, W 0 m (upd H0 D (.lst []))) ∧ ∀ i m H, W i m H →
      (J.stop i H ∧ Qd D H) ∨ (J.go i H ∧ ∃ Nx : Hp → Prop, (∀ H', Nx H' → ∃ m', m' < m ∧ W (i + 1) m' H') ∧ ∀ x H', J.yld i H x H' → g x (wipe σ vs) H' fun σ2 H2 => wipe σ2 vs = wipe σ vs ∧ tt σ2 H2 fun b H3 =>
        if b = true then te σ2 H3 fun y H4 => ∃ acc, H4 D = some (.lst acc) ∧ acc.length < sizeLine ∧ Nx (upd H4 D (.lst (acc ++ [y]))) else Nx H3) := by
  intro D hD
  have nFD : ¬ F D := fun z => hF D z hD
  refine ⟨fun i m H' => m = xs.length - i ∧ i ≤ xs.length ∧ ∃ acc, H' D = some (.lst acc) ∧ acc.length ≤ i ∧ Pv D i acc H' ∧ Kp F H0 H',
    ⟨_, rfl, Nat.zero_le _, [], upd_same, Nat.le_refl _, h0 D hD, (Kp.new hD).mono fun b z => z.elim⟩, ?_⟩
  rintro i m H ⟨rfl, hi, acc, hacc, hl, p, kp⟩
  by_cases hlt : i < xs.length
  · refine .inr ⟨W.go i H hlt (hG _ _ _ _ p kp), _, fun H' z => ⟨xs.length - (i + 1), by omega, z⟩, fun x H' y => ?_⟩
    obtain ⟨rfl, e⟩ := W.yld i H x H' hlt (hG _ _ _ _ p kp) y
    refine hs D i x acc _ _ _ e hD hacc p kp (fun y H4 k4 p4 => ?_) (fun H4 k4 p4 => ?_)
    · have h4 := k4.get hacc nFD
      refine ⟨acc, h4, Nat.lt_of_le_of_lt (Nat.le_trans hl (Nat.le_trans hi hz)) (by decide), rfl, hlt, acc ++ [y], upd_same, by rw [List.length_append, List.length_singleton]; omega, hSt D _ _ _ _ (Kp.put h4 id) p4, ?_⟩
      intro b o hb n
      rw [upd_ne (ne_of_none hb hD)]
      exact k4 b o (kp b o hb n) n
    · exact ⟨rfl, hlt, acc, k4.get hacc nFD, by omega, p4, fun b o hb n => k4 b o (kp b o hb n) n⟩
  · obtain rfl : i = xs.length := by omega
    exact .inl ⟨W.stop H (hG _ _ _ _ p kp), hd D H acc hD hacc p kp⟩
theorem pgt {α β : Type} {R : α → β → Prop} : ∀ {l : List α} {m : List β} {i : Nat} {x : α}, Paired R l m → l[i]? = some x → ∃ y, m[i]? = some y ∧ R x y
  | _, _, 0, _, .cons r _, e => by simp at e; subst e; exact ⟨_, rfl, r⟩
  | _, _, i + 1, _, .cons r t, e => by rw [List.getElem?_cons_succ] at e ⊢; exact pgt t e
  | _, _, _, _, .nil, e => by simp at e
theorem pgetr {α β : Type} {R : α → β → Prop} {l : List α} {m : List β} {i : Nat} {y : β} (h : Paired R l m) (e : m[i]? = some y) : ∃ x, l[i]? = some x ∧ R x y := by
  have hi : i < l.length := by rw [h.length]; exact (List.getElem?_eq_some_iff.mp e).1
  obtain ⟨z, ez, r⟩ := pgt h (List.getElem?_eq_getElem hi)
  rw [e] at ez; cases ez
  exact ⟨_, List.getElem?_eq_getElem hi, r⟩
/-! ### pairs of numbers and pages, groups of them, lists of groups -/
def PAt (O : Addr → Prop) (H : Hp) (v : V) (q : Int × List Int) : Prop := ∃ t l, v = .ref t ∧ H t = some (.tup [.int q.1, .ref l]) ∧ H l = some (.lst (q.2.map V.int)) ∧ O l
def GAt (O : Addr → Prop) (H : Hp) (v : V) (g : List (Int × List Int)) : Prop := ∃ a ws, v = .ref a ∧ H a = some (.lst ws) ∧ O a ∧ Paired (PAt O H) ws g
def GsAt (O : Addr → Prop) (H : Hp) (a : Addr) (gs : List (List (Int × List Int))) : Prop := ∃ vs, H a = some (.lst vs) ∧ O a ∧ Paired (GAt O H) vs gs
section
variable {O O' F : Addr → Prop} {H H' : Hp} {v : V} {q : Int × List Int} {g : List (Int × List Int)} {gs : List (List (Int × List Int))} {a : Addr}
theorem PAt.kp (s : Kp F H H') (n : ∀ b o, H b = some o → O b → ¬ F b) (h : PAt O H v q) : PAt O H' v q := by
  obtain ⟨t, l, e, ht, hl, o⟩ := h
  exact ⟨t, l, e, s.tup ht, s.get hl (n _ _ hl o), o⟩
theorem GAt.kp (s : Kp F H H') (n : ∀ b o, H b = some o → O b → ¬ F b) (h : GAt O H v g) : GAt O H' v g := by
  obtain ⟨a, ws, e, ha, o, p⟩ := h
  exact ⟨a, ws, e, s.get ha (n _ _ ha o), o, p.mono fun _ _ r => r.kp s n⟩
theorem GsAt.kp (s : Kp F H H') (n : ∀ b o, H b = some o → O b → ¬ F b) (h : GsAt O H a gs) : GsAt O H' a gs := by
  obtain ⟨vs, ha, o, p⟩ := h
  exact ⟨vs, s.get ha (n _ _ ha o), o, p.mono fun _ _ r => r.kp s n⟩
theorem PAt.own (n : ∀ b, (∃ o, H b = some o) → O b → O' b) (h : PAt O H v q) : PAt O' H v q := by
  obtain ⟨t, l, e, ht, hl, o⟩ := h
  exact ⟨t, l, e, ht, hl, n _ ⟨_, hl⟩ o⟩
theorem GAt.own (n : ∀ b, (∃ o, H b = some o) → O b → O' b) (h : GAt O H v g) : GAt O' H v g := by
  obtain ⟨a, ws, e, ha, o, p⟩ := h
  exact ⟨a, ws, e, ha, n _ ⟨_, ha⟩ o, p.mono fun _ _ r => r.own n⟩
def pD (q : Int × List Int) : PyData := .tuple [.int q.1, .list (q.2.map PyData.int)]
def gD (g : List (Int × List Int)) : PyData := .list (g.map pD)
def gsD (gs : List (List (Int × List Int))) : PyData := .list (gs.map gD)
theorem dp_all {K : PySem.W.Frag} {α : Type} {R : V → α → Prop} {f : α → PyData} (hf : ∀ v x, R v x → Dp K H v (f x)) : ∀ {vs : List V} {xs : List α}, Paired R vs xs → DpAll K H vs (xs.map f)
  | _, _, .nil => .nil
  | _, _, .cons r t => .cons (hf _ _ r) (dp_all hf t)
theorem PAt.dp {K : PySem.W.Frag} (h : PAt O H v q) : Dp K H v (pD q) := by
  obtain ⟨t, l, rfl, ht, hl, o⟩ := h
  exact .tup (SqT.of ht) (.cons (.int _) (.cons (.lst (SqL.of hl) (dp_ints _)) .nil))
theorem GAt.dp {K : PySem.W.Frag} (h : GAt O H v g) : Dp K H v (gD g) := by
  obtain ⟨a, ws, rfl, ha, o, p⟩ := h
  exact .lst (SqL.of ha) (dp_all (fun _ _ r => r.dp) p)
theorem GsAt.dp {K : PySem.W.Frag} (h : GsAt O H a gs) : Dp K H (.ref a) (gsD gs) := by
  obtain ⟨vs, ha, o, p⟩ := h
  exact .lst (SqL.of ha) (dp_all (fun _ _ r => r.dp) p)
theorem pD_sh (q : Int × List Int) : Sh 2 (pD q) := Sh.tuple fun d hd => by
  rcases List.mem_cons.mp hd with h | h
  · rw [h]; exact ⟨(Sh.int _).1, Nat.le_trans (Sh.int _).2.1 (by decide), (Sh.int _).2.2⟩
  · rw [List.mem_singleton.mp h]; exact Sh.list (sh_ints _)
theorem gD_sh (g : List (Int × List Int)) : Sh 3 (gD g) := Sh.list fun d hd => by
  obtain ⟨q, _, rfl⟩ := List.mem_map.mp hd
  exact pD_sh q
theorem gsD_sh (gs : List (List (Int × List Int))) : Sh 4 (gsD gs) := Sh.list fun d hd => by
  obtain ⟨q, _, rfl⟩ := List.mem_map.mp hd
  exact gD_sh q
theorem eqv_refl {d : PyData} (h : nb d = true) : PyData.eqv d d = true := (eqv_nb d d h h).mpr rfl
end
theorem if_both {b : Bool} {A B : Prop} (h : B) (g : b = true → B → A) : if b = true then A else B := by
  cases b
  · exact h
  · exact g rfl h
section
variable {X : Cx} {o lo hi : Expr} {to tl tu : TE} {p2 pos : Pos}
/-- xs[a:c] = ys of another list -/
def rSlS (v o x y : V) (H : Hp) (R : Hp → Prop) : Prop := ∃ (l b : Addr) (xs ys : List V) (a c : Int), v = .ref b ∧ o = .ref l ∧ x = .int a ∧ y = .int c ∧ H l = some (.lst xs) ∧ H b = some (.lst ys) ∧ l ≠ b ∧ 0 ≤ a ∧ a ≤ c ∧ c ≤ xs.length ∧ xs.length + ys.length ≤ sizeLine ∧ R (upd H l (.lst (xs.take a.toNat ++ ys ++ xs.drop c.toNat)))
def gSlS (to tl tu : TE) : TG := fun v σ H Q => to σ H fun o H1 => tl σ H1 fun x H2 => tu σ H2 fun y H3 => rSlS v o x y H3 (Q σ)
theorem pg_slS (ho : PE X o to) (hl : PE X lo tl) (hu : PE X hi tu) : PG X (.Subscript o (.Slice (some lo) (some hi) none p2) pos) (gSlS to tl tu) := by
  have ha : ∀ v, assign (.Subscript o (.Slice (some lo) (some hi) none p2) pos) X.env v = (do
      let ov ← holding [v] (eval o X.env)
      let iv ← holding [v, ov] (eval (.Slice (some lo) (some hi) none p2) X.env)
      standAt pos
      holding [v, ov, iv] (setItem ov iv v)
      release [iv, v, ov] []) := fun _ => rfl
  refine ⟨fun pins s σ H v u Q I r h => ?_⟩
  rw [ha]
  refine wpAny_bind (wpAny_holding (thn (ho.run pins s σ H _ I h) fun ov s1 ⟨x, H1, I1, r1, q1⟩ => ?_))
  refine wpAny_bind (wpAny_holding (wpAny_Slice ?_))
  rw [evalPart_some]
  refine thn (hl.run pins s1 σ H1 _ I1 q1) fun vl s2 ⟨y, H2, I2, r2, q2⟩ => ?_
  rw [evalPart_some]
  refine thn (hu.run pins s2 σ H2 _ I2 q2) fun vu s3 ⟨z, H3, I3, r3, q3⟩ => ?_
  rw [evalPart_none]
  refine wpAny_pure ?_
  obtain ⟨l, b, xs, ys, a, d, e1, e2, e3, e4, hl1, hb1, ne, h0, h1, h2, hz, q⟩ := q3
  subst e1; subst e2; subst e3; subst e4
  cases (show u = Value.ref _ from r)
  cases (show ov = Value.ref _ from r1)
  have I4 : Inv X pins σ H3 { s3 with heap := s3.heap.push { cls := .type "slice", data := .fields #[vl, vu, .none] } } := I3.kept (t' := s3.toks) fun b ob q => Heap.get?_push_of_some _ q
  refine wpAny_bind (wpAny_standAt (wpAny_bind (wpAny_holding (set_slice I4 hl1 hb1 ne (Heap.IsSliceOf.new ..) r2 r3 h0 h1 h2 hz fun s' I' => ?_))))
  exact wpAny_release ⟨σ, _, I', q⟩
theorem x_slS {H : Hp} {l b : Addr} {xs ys : List V} {a c : Int} {R : Hp → Prop} (h1 : H l = some (.lst xs)) (h2 : H b = some (.lst ys)) (n : l ≠ b) (h0 : 0 ≤ a) (h3 : a ≤ c) (h4 : c ≤ xs.length) (hz : xs.length + ys.length ≤ sizeLine)
    (q : ∀ H1, H1 l = some (.lst (xs.take a.toNat ++ ys ++ xs.drop c.toNat)) → Kp (F1 l) H H1 → R H1) : rSlS (.ref b) (.ref l) (.int a) (.int c) H R :=
  ⟨l, b, xs, ys, a, c, rfl, rfl, rfl, rfl, h1, h2, n, h0, h3, h4, hz, q _ upd_same (Kp.put h1 id)⟩
end
/-- sorted(d) of a dict of ints, dict(d), list.pop(i) -/
def rSrtD : List V → Hp → VK → Prop := fun xs H Q => ∃ (a : Addr) (kvs : List (Key × V)) (ks : List Int), xs = [.ref a] ∧ Rd H a (.dK kvs) ∧ kvs.map (·.1) = ks.map Sum.inl ∧ ks.length < 64 ∧ ∀ (ys : List Int) (p : Addr), ys.Perm ks → ys.Pairwise (· ≤ ·) → H p = none → Q (.ref p) (upd H p (.lst (ys.map V.int)))
theorem c_sortedDI {X : Cx} (hc : X.calm = true) : CallR X (.builtin "sorted") rSrtD := call_sortedDI hc
theorem x_srtD {H : Hp} {Q : VK} {a : Addr} {kvs : List (Key × V)} {ks : List Int} (h : H a = some (.dK kvs)) (e : kvs.map (·.1) = ks.map Sum.inl) (z : ks.length < 64) (q : ∀ (ys : List Int) (p : Addr) (H1 : Hp), ys.Perm ks → ys.Pairwise (· ≤ ·) → H p = none → Kp F0 H H1 → H1 p = some (.lst (ys.map V.int)) → Q (.ref p) H1) : rSrtD [.ref a] H Q :=
  ⟨a, kvs, ks, rfl, .inl h, e, z, fun ys p hy hs hp => q ys p _ hy hs hp (Kp.new hp) upd_same⟩
def rDictD : List V → Hp → VK → Prop := fun xs H Q => ∃ (a : Addr) (kvs : List (Key × V)), xs = [.ref a] ∧ Rd H a (.dK kvs) ∧ ∀ p, H p = none → Q (.ref p) (upd H p (.dK kvs))
theorem c_dictD {X : Cx} : CallR X (.type "dict") rDictD := call_dictD
theorem x_dictD {H : Hp} {Q : VK} {a : Addr} {kvs : List (Key × V)} (h : H a = some (.dK kvs)) (q : ∀ p H1, H p = none → Kp F0 H H1 → H1 p = some (.dK kvs) → Q (.ref p) H1) : rDictD [.ref a] H Q :=
  ⟨a, kvs, rfl, .inl h, fun p hp => q p _ hp (Kp.new hp) upd_same⟩
theorem if_so {α : Type} {x : α} {A B : Prop} (h : A) : if (some x).isSome = true then A else B := by simpa using h
theorem if_no {α : Type} {A B : Prop} (h : B) : if (none : Option α).isSome = true then A else B := by simpa using h
theorem x_gsl {to tl tu : TE} {v : V} {σ : L2.St} {H : Hp} {R : L2.St → Hp → Prop} (h : to σ H fun o H1 => tl σ H1 fun x H2 => tu σ H2 fun y H3 => rSlS v o x y H3 (R σ)) : gSlS to tl tu v σ H R := h
/-! ### numbers and points as bytes, in plain Lean -/
/-- the last w bytes of a number, most significant first -/
def wn : Nat → Int → List Int
  | 0, _ => []
  | w + 1, n => wn w (n / 256) ++ [n % 256]
def rn (l : List Int) : Int := l.foldl (fun a b => a * 256 + b) 0
def wp (p : List Int) : List Int := p.flatMap fun c => wn 2 (c + 32768)
def rp (l : List Int) (place : Nat) (d : Nat) : List Int := (List.range d).map fun k => rn ((l.drop (place + 2 * k)).take 2) - 32768
/-- a list of bytes -/
def Byt (l : List Int) : Prop := ∀ x ∈ l, 0 ≤ x ∧ x < 256
theorem wn_len : ∀ (w : Nat) (n : Int), (wn w n).length = w
  | 0, _ => rfl
  | w + 1, n => by show (wn w (n / 256) ++ [n % 256]).length = w + 1; rw [List.length_append, wn_len w]; rfl
theorem wn_byt : ∀ (w : Nat) (n : Int), Byt (wn w n)
  | 0, _, x, h => by cases h
  | w + 1, n, x, h => by
    rcases List.mem_append.mp (show x ∈ wn w (n / 256) ++ [n % 256] from h) with h | h
    · exact wn_byt w _ x h
    · rw [List.mem_singleton.mp h]; omega
theorem pow256 (k : Nat) : (0 : Int) < 256 ^ k := Int.pow_pos (by decide)
theorem wn_cons : ∀ (w : Nat) (n : Int), wn (w + 1) n = (n / 256 ^ w % 256) :: wn w n
  | 0, n => by show [] ++ [n % 256] = _; simp [wn]
  | w + 1, n => by
    show wn (w + 1) (n / 256) ++ [n % 256] = _
    rw [wn_cons w (n / 256)]
    show (n / 256 / 256 ^ w % 256) :: (wn w (n / 256) ++ [n % 256]) = (n / 256 ^ (w + 1) % 256) :: wn (w + 1) n
    rw [Int.ediv_ediv_of_nonneg (by decide), Int.mul_comm, ← Int.pow_succ]; rfl
theorem rn_app (l : List Int) (x : Int) : rn (l ++ [x]) = rn l * 256 + x := by unfold rn; rw [List.foldl_append]; rfl
theorem rn_wn : ∀ (w : Nat) (n : Int), 0 ≤ n → n < 256 ^ w → rn (wn w n) = n
  | 0, n, h0, h1 => by rw [Int.pow_zero] at h1; show (0 : Int) = n; omega
  | w + 1, n, h0, h1 => by
    show rn (wn w (n / 256) ++ [n % 256]) = n
    rw [Int.pow_succ] at h1
    rw [rn_app, rn_wn w (n / 256) (by omega) (by omega)]
    omega
theorem rn_nn {l : List Int} (h : Byt l) : 0 ≤ rn l := by
  have q : ∀ (l : List Int) (a : Int), 0 ≤ a → Byt l → 0 ≤ l.foldl (fun a b => a * 256 + b) a := by
    intro l
    induction l with
    | nil => intro a h _; exact h
    | cons x l ih =>
      intro a h0 h
      have := h x (by simp)
      exact ih _ (show 0 ≤ a * 256 + x by omega) fun y hy => h y (List.mem_cons_of_mem _ hy)
  exact q l 0 (by decide) h
theorem wn_get {w : Nat} {n : Int} {k : Nat} (h : k < w) : (wn w n)[k]? = some (n / 256 ^ (w - 1 - k) % 256) := by
  induction w generalizing n k with
  | zero => omega
  | succ w ih =>
    rw [wn_cons]
    cases k with
    | zero => simp
    | succ k =>
      rw [List.getElem?_cons_succ, ih (by omega)]
      congr 4; omega
theorem pow_256 (k : Nat) : (2 : Int) ^ (8 * k) = 256 ^ k := by rw [Int.pow_mul]; rfl
theorem wp_app (p : List Int) (c : Int) : wp (p ++ [c]) = wp p ++ wn 2 (c + 32768) := by unfold wp; rw [List.flatMap_append]; simp
theorem wp_len (p : List Int) : (wp p).length = 2 * p.length := by
  induction p with
  | nil => rfl
  | cons c p ih =>
    show (wn 2 (c + 32768) ++ wp p).length = 2 * (p.length + 1)
    rw [List.length_append, ih, wn_len]; omega
theorem wp_byt (p : List Int) : Byt (wp p) := by
  intro x h
  obtain ⟨c, _, hx⟩ := List.mem_flatMap.mp h
  exact wn_byt _ _ x hx
/-- coordinates in their range -/
def Crd (p : List Int) : Prop := ∀ x ∈ p, -32768 ≤ x ∧ x ≤ 32767
theorem wp_drop (p : List Int) : ∀ k : Nat, (wp p).drop (2 * k) = wp (p.drop k)
  | 0 => by simp
  | k + 1 => by
    cases p with
    | nil => simp [wp]
    | cons c p =>
      show (wn 2 (c + 32768) ++ wp p).drop (2 * (k + 1)) = wp (p.drop k)
      rw [← wp_drop p k, List.drop_append, wn_len]
      rw [List.drop_eq_nil_of_le (by rw [wn_len]; omega), List.nil_append]
      congr 1
theorem rp_wp {p : List Int} (h : Crd p) (a b : List Int) : rp (a ++ wp p ++ b) a.length p.length = p := by
  unfold rp
  apply List.ext_getElem
  · simp
  · intro k h1 h2
    simp only [List.getElem_map, List.getElem_range]
    have e : (a ++ wp p ++ b).drop (a.length + 2 * k) = wn 2 (p[k] + 32768) ++ (wp (p.drop (k + 1)) ++ b) := by
      rw [List.append_assoc, List.drop_append, List.drop_eq_nil_of_le (by omega), List.nil_append, Nat.add_sub_cancel_left, List.drop_append, wp_drop]
      rw [show 2 * k - (wp p).length = 0 by rw [wp_len]; omega, List.drop_zero, List.drop_eq_getElem_cons h2]
      show wn 2 (p[k] + 32768) ++ wp (p.drop (k + 1)) ++ b = _
      rw [List.append_assoc]
    have hc := h p[k] (by simp)
    rw [e, List.take_append_of_le_length (by rw [wn_len]; omega), List.take_of_length_le (Nat.le_of_eq (wn_len _ _)), rn_wn _ _ (by omega) (by omega)]
    omega
/-! ### groups, in plain Lean -/
def chunk (q : Int × List Int) : List Int := wn 4 q.1 ++ q.2
def wg (g : List (Int × List Int)) : List Int := wn 4 g.length ++ g.flatMap chunk
structure Good (g : List (Int × List Int)) : Prop where
  n : g.length ≤ 60
  q : ∀ q ∈ g, 0 ≤ q.1 ∧ q.1 < 256 ^ 4 ∧ q.2.length = 256
theorem chunk_len {q : Int × List Int} (h : q.2.length = 256) : (chunk q).length = 260 := by unfold chunk; rw [List.length_append, wn_len, h]
theorem fm_len {α : Type} {f : α → List Int} {n : Nat} : ∀ {g : List α}, (∀ q ∈ g, (f q).length = n) → (g.flatMap f).length = n * g.length
  | [], _ => rfl
  | q :: g, h => by
    rw [List.flatMap_cons, List.length_append, h q (by simp), fm_len (g := g) fun r hr => h r (List.mem_cons_of_mem _ hr), List.length_cons, Nat.mul_succ, Nat.add_comm]
theorem fm_drop {α : Type} {f : α → List Int} {n : Nat} : ∀ {g : List α} {k : Nat} {q : α}, (∀ q ∈ g, (f q).length = n) → g[k]? = some q → (g.flatMap f).drop (n * k) = f q ++ (g.drop (k + 1)).flatMap f
  | [], _, _, _, e => by simp at e
  | r :: g, 0, q, h, e => by
    simp only [List.getElem?_cons_zero, Option.some.injEq] at e
    subst e
    rw [Nat.mul_zero, List.drop_zero, List.flatMap_cons]; rfl
  | r :: g, k + 1, q, h, e => by
    rw [List.getElem?_cons_succ] at e
    rw [List.flatMap_cons, Nat.mul_succ, Nat.add_comm (n * k) n, ← List.drop_drop, List.drop_left' (h r (by simp)), fm_drop (g := g) (fun r hr => h r (List.mem_cons_of_mem _ hr)) e]; rfl
theorem wg_len {g : List (Int × List Int)} (h : Good g) : (wg g).length = 4 + 260 * g.length := by
  unfold wg
  rw [List.length_append, wn_len, fm_len fun q hq => chunk_len (h.q q hq).2.2]
/-- what is read at a group's beginning -/
theorem rd_count {A T ds : List Int} {g : List (Int × List Int)} (h : Good g) (e : ds = A ++ (wg g ++ T)) : rn ((ds.drop A.length).take 4) = g.length := by
  subst e
  rw [List.drop_left, wg, List.append_assoc, List.take_left' (wn_len 4 _)]
  exact rn_wn 4 _ (by omega) (by have := h.n; omega)
theorem rd_chunk {A T ds : List Int} {g : List (Int × List Int)} {k : Nat} {q : Int × List Int} (h : Good g) (e : ds = A ++ (wg g ++ T)) (hq : g[k]? = some q) :
    rn ((ds.drop (A.length + 4 + 260 * k)).take 4) = q.1 ∧ (ds.drop (A.length + 4 + 260 * k + 4)).take 256 = q.2 := by
  have hm := h.q q (List.mem_of_getElem? hq)
  have hd : ds.drop (A.length + 4 + 260 * k) = wn 4 q.1 ++ (q.2 ++ ((g.drop (k + 1)).flatMap chunk ++ T)) := by
    subst e
    rw [Nat.add_assoc, ← List.drop_drop, List.drop_left, wg, List.append_assoc, ← List.drop_drop, List.drop_left' (wn_len 4 _), List.drop_append_of_le_length, fm_drop (fun q hq => chunk_len (h.q q hq).2.2) hq]
    · unfold chunk; simp only [List.append_assoc]
    · rw [fm_len fun q hq => chunk_len (h.q q hq).2.2]
      have := (List.getElem?_eq_some_iff.mp hq).1
      omega
  constructor
  · rw [hd, List.take_left' (wn_len 4 _)]
    exact rn_wn 4 _ hm.1 hm.2.1
  · rw [← List.drop_drop, hd, List.drop_left' (wn_len 4 _), List.take_left' hm.2.2]
/-- the beginning of a group that is cut off -/
theorem rd_part {A ds : List Int} {g : List (Int × List Int)} {j : Nat} (h : Good g) (e : ds = A ++ (wg g).take j) (hj : 4 ≤ j) : rn ((ds.drop A.length).take 4) = g.length := by
  subst e
  rw [List.drop_left, List.take_take, Nat.min_eq_left hj, wg, List.take_left' (wn_len 4 _)]
  exact rn_wn 4 _ (by omega) (by have := h.n; omega)
theorem wn4 {n : Int} (h0 : 0 ≤ n) (h1 : n < 256 ^ 4) : [n / 2 ^ 24, n / 2 ^ 16 % 256, n / 2 ^ 8 % 256, n % 256] = wn 4 n := by
  have e : wn 4 n = [n / 256 / 256 / 256 % 256, n / 256 / 256 % 256, n / 256 % 256, n % 256] := rfl
  rw [e]
  simp only [List.cons.injEq, and_true]
  refine ⟨?_, ?_, ?_⟩ <;> omega
theorem takes {α : Type} {f : α → List Int} {l : List α} {i : Nat} {x : α} (e : l[i]? = some x) : (l.take (i + 1)).flatMap f = (l.take i).flatMap f ++ f x := by
  rw [List.take_succ, e, List.flatMap_append]; simp
/-- the groups' flat form at the i-th -/
theorem flat_at {gs : List (List (Int × List Int))} {i : Nat} {g : List (Int × List Int)} (T : List Int) (e : gs[i]? = some g) : gs.flatMap wg ++ T = (gs.take i).flatMap wg ++ (wg g ++ ((gs.drop (i + 1)).flatMap wg ++ T)) := by
  have hi := (List.getElem?_eq_some_iff.mp e).1
  have h2 : gs.drop i = g :: gs.drop (i + 1) := by
    rw [List.drop_eq_getElem_cons hi, (List.getElem?_eq_some_iff.mp e).2]
  conv => lhs; rw [← List.take_append_drop i gs, List.flatMap_append, h2, List.flatMap_cons]
  simp only [List.append_assoc]
section
variable {P : Program} {w : World} {K : PySem.W.Frag} {mg : Str → Option Value} {base : Heap} {c : Cl}
def Dr (K : PySem.W.Frag) (H : Hp) (st sc : Addr) : Prop := ∃ (i v : Int) (ns : List Int), 0 ≤ i ∧ 0 ≤ v ∧ H st = some (.lst [.int i, .int v]) ∧ ns.length ≤ 63 ∧ Sc K H sc ns
def sp__law_draw (K : PySem.W.Frag) : Sp := fun vs H Q _ => ∃ st sc n, vs = [.ref st, .ref sc, .int n] ∧ 0 < n ∧ n < 2 ^ 64 ∧ Dr K H st sc ∧
  ∀ d H', 0 ≤ d → d < n → Dr K H' st sc → Kp (F1 st) H H' → Q (.int d) H'
--HOT _law_draw
theorem ok__law_draw (T : Txt K mg c) : GF P w K mg base CX0 1 "_law_draw" (sp__law_draw K) := by
  obtain ⟨f, fd, F, gm⟩ := T.f__law_draw
  refine ⟨f, fd, ["_law_state", "_law_script", "_law_size"], F.ok sc__law_draw ?_ (fun cdv A outer s H vs Q E hr h => ?_), gm, F.kp, (F.binds (ps := ["_law_state", "_law_script", "_law_size"]) fun _ _ _ _ _ _ us hl => match us, hl with | [_, _, _], _ => rfl)⟩
  · rintro vs H Q E ⟨_, _, _, rfl, _⟩
    rfl
  · obtain ⟨st, sc, n, rfl, hn0, hn1, ⟨i, v, ns, hi, hv, hst, hlen, hsc⟩, k⟩ := h
    refine ⟨_, (C8.pss_cut (ps_if (pt_cmpR op_eq (pe_ix (r := rIxL K) ix_list (pv 0) pe_int (fun _ _ => rfl)) pe_int (nomark _)) (pss_cons (ps_set (i := 3) sc__law_draw.nd rfl (Or.inl rfl) pe_int)
      (C8.pss_cut (ps_if (pt_cmpR op_gt (pe_callB (r := rLenQ K) c_len (by rfl) T.z_len PySem.boot_len (pa_cons (pv 1) pa_nil)) pe_int (nomark _)) (pss_one (ps_set (i := 3) sc__law_draw.nd rfl (Or.inl rfl) (pe_ix (r := rIxL K) ix_list (pv 1) (pe_op op_mod (pe_ix (r := rIxL K) ix_list (pv 0) pe_int (fun _ _ => rfl)) (pe_callB (r := rLenQ K) c_len (by rfl) T.z_len PySem.boot_len (pa_cons (pv 1) pa_nil))) (fun _ _ => rfl)))) pss_nil)
      (C8.pss_cut (ps_if (pt_cmpR op_lt (pv 3) pe_int (nomark _)) (pss_one (ps_set (i := 3) sc__law_draw.nd rfl (Or.inl rfl) (pe_op op_sub pe_int (pe_op op_mul pe_int (pv 3))))) pss_nil)
      (pss_cons (ps_set (i := 4) sc__law_draw.nd rfl (Or.inl rfl) (pe_op op_mod (pe_callTy c_int (by rfl) T.z_int (by decide +kernel) (pa_cons (pe_op op_mul (pe_op op_add (pe_op op_add (pv 3) (pe_op op_mul (pe_ix (r := rIxL K) ix_list (pv 0) pe_int (fun _ _ => rfl)) pe_int)) pe_int) pe_int) pa_nil)) pe_int))
      (pss_cons (ps_asg (pe_op op_mod (pe_callTy c_int (by rfl) T.z_int (by decide +kernel) (pa_cons (pe_op op_add (pe_op op_mul (pv 4) pe_int) (pe_op op_mul (pe_ix (r := rIxL K) ix_list (pv 0) pe_int (fun _ _ => rfl)) pe_int)) pa_nil)) pe_int) (pg_sub (pv 0) pe_int set_list))
      (C8.pss_cut (ps_if (PW.pt (pw_and (pt_cmpR op_ge (pv 3) (pe_op op_pow pe_int pe_int) (nomark _)) (pw_and1 (pt_cmpR op_lt (pe_ix (r := rIxL K) ix_list (pv 0) pe_int (fun _ _ => rfl)) (pe_callB (r := rLenQ K) c_len (by rfl) T.z_len PySem.boot_len (pa_cons (pv 1) pa_nil)) (nomark _))))) (pss_one (ps_asg (pv 3) (pg_sub (pv 0) pe_int set_list))) pss_nil)
      (pss_one (ps_asg (pe_op op_add (pe_ix (r := rIxL K) ix_list (pv 0) pe_int (fun _ _ => rfl)) pe_int) (pg_sub (pv 0) pe_int set_list))))))))) pss_nil)
      (pss_cons (ps_set (i := 5) sc__law_draw.nd rfl (Or.inl rfl) (pe_op op_mod (pe_callTy c_int (by rfl) T.z_int (by decide +kernel) (pa_cons (pe_ix (r := rIxL K) ix_list (pv 0) pe_int (fun _ _ => rfl)) pa_nil)) (pv 2)))
      (pss_cons (ps_asg (pe_op op_fdivW (pe_ix (r := rIxL K) ix_list (pv 0) pe_int (fun _ _ => rfl)) (pv 2)) (pg_sub (pv 0) pe_int set_list))
      (pss_one (ps_ret (pv 5)))))), ?_⟩
    walk_at "cx"
    walk_at "rd"
    have kpu : ∀ o, Kp (F1 st) H (upd H st o) := fun o => Kp.put hst id
    refine x_cut (fun σ' H' => ∃ (i' v' : Int) (u1 u2 : Option V), σ' = [some (.ref st), some (.ref sc), some (.int n), u1, u2, none] ∧ 0 ≤ i' ∧ 0 ≤ v' ∧ H' = upd H st (.lst [.int i', .int v'])) ?_ ?_
    · walk_at "rd"
      refine ite_dec (fun e => ?_) (fun e => ?_)
      · walk_at "rd"
        refine x_cut (fun σ' H' => ∃ (c : Int), σ' = [some (.ref st), some (.ref sc), some (.int n), some (.int c), none, none] ∧ H = H') ?_ ?_
        · walk_at "rd"
          refine ite_dec (fun e1 => ?_) (fun e1 => ?_)
          · have hl : (0 : Int) < ((ns.map V.int).length : Int) := e1
            have hb := Int.emod_lt_of_pos i hl
            have hb0 := Int.emod_nonneg i (Int.ne_of_gt hl)
            walk_at "rd"
            refine x_ixL hsc.sq (v := .int (ns.getD (i % ((ns.map V.int).length : Int)).toNat 0)) (atI_at (i % ((ns.map V.int).length : Int)).toNat (by omega) ?_) ?_
            · rw [List.length_map] at *
              rw [List.getElem?_map, List.getD_eq_getElem?_getD, List.getElem?_eq_getElem (by omega)]
              rfl
            · walk_at "rd"
              exact ⟨_, rfl, rfl⟩
          · exact ⟨0, rfl, rfl⟩
        · rintro σ' H' ⟨c, rfl, rfl⟩
          refine x_cut (fun σ' H' => ∃ (c : Int), 0 ≤ c ∧ σ' = [some (.ref st), some (.ref sc), some (.int n), some (.int c), none, none] ∧ H = H') ?_ ?_
          · walk_at "rd"
            refine ite_dec (fun e2 => ?_) (fun e2 => ?_)
            · walk_at "rd"
              exact ⟨_, by omega, rfl, rfl⟩
            · exact ⟨c, by omega, rfl, rfl⟩
          · rintro σ' H' ⟨c, hc, rfl, rfl⟩
            walk_at "rd"
            have hm0 : ∀ z : Int, 0 ≤ z % 4294967291 := fun z => Int.emod_nonneg z (by decide)
            refine x_cut (fun σ' H' => ∃ (v' : Int) (u1 : Option V), 0 ≤ v' ∧ σ' = [some (.ref st), some (.ref sc), some (.int n), some (.int c), u1, none] ∧ H' = upd H st (.lst [.int i, .int v'])) ?_ ?_
            · walk_at "rd"
              refine ite_dec (fun e3 => ?_) (fun e3 => ?_)
              · walk_at "rd"
                refine x_lenL (hsc.kp (kpu _)).sq ?_
                walk_at "rd"
                refine ite_dec (fun e4 => ?_) (fun e4 => ?_)
                · walk_at "rd"
                  exact ⟨c, _, hc, rfl, upd_upd⟩
                · exact ⟨_, _, hm0 _, rfl, rfl⟩
              · exact ite_bool (fun z => by cases z) (fun _ => ⟨_, _, hm0 _, rfl, rfl⟩)
            · rintro σ' H' ⟨v', u1, hv', rfl, rfl⟩
              walk_at "rd"
              exact ⟨i + 1, v', _, _, rfl, by omega, hv', upd_upd⟩
      · exact ⟨i, v, _, _, rfl, hi, hv, (upd_id hst).symm⟩
    · rintro σ' H' ⟨i', v', u1, u2, rfl, hi', hv', rfl⟩
      walk_at "rd"
      refine k _ _ (Int.emod_nonneg _ (by omega)) (Int.emod_lt_of_pos _ hn0) ⟨i', v' / n, ns, hi', Int.ediv_nonneg hv' (by omega), upd_same, hlen, ?_⟩ ?_
      · rw [upd_upd]; exact hsc.kp (kpu _)
      · rw [upd_upd]; exact kpu _
--TOH
theorem Dr.kp {K : PySem.W.Frag} {F : Addr → Prop} {H H' : Hp} {st sc : Addr} (s : Kp F H H') (d : Dr K H st sc) (n : ¬ F st) : Dr K H' st sc := by
  obtain ⟨i, v, ns, hi, hv, hst, hl, hs⟩ := d
  exact ⟨i, v, ns, hi, hv, s.get hst n, hl, hs.kp s⟩
theorem Dr.ne {K : PySem.W.Frag} {H H0 : Hp} {st sc D : Addr} {o : HO} (d : H0 st = some o) (n : H0 D = none) : st ≠ D := ne_of_none d n
theorem Dr.off {K : PySem.W.Frag} {H : Hp} {st sc D : Addr} {o : HO} (d : Dr K H st sc) (n : st ≠ D) (m : ∀ u, H D = some u → ¬ Fix u) : Dr K (upd H D o) st sc := by
  obtain ⟨i, v, ns, hi, hv, hst, hl, hs⟩ := d
  refine ⟨i, v, ns, hi, hv, by rw [upd_ne n]; exact hst, hl, ?_⟩
  rcases hs with ⟨f, h⟩ | h
  · refine .inl ⟨f, ?_⟩
    rw [upd_ne fun e => m (.frz f (.lst (ns.map V.int))) (by rw [← e]; exact h) trivial]
    exact h
  · exact .inr h
theorem Dr.trk {K : PySem.W.Frag} {H : Hp} {st sc : Addr} (h : Dr K H st sc) : ∃ o, H st = some o := by
  obtain ⟨_, _, _, _, _, e, _⟩ := h
  exact ⟨_, e⟩
theorem Dr.new {K : PySem.W.Frag} {H : Hp} {st sc l : Addr} (h : Dr K H st sc) (n : H l = none) : l ≠ st := fun e => by
  obtain ⟨_, z⟩ := h.trk
  rw [← e, n] at z; cases z
end
section
variable {P : Program} {w : World} {K : PySem.W.Frag} {mg : Str → Option Value} {base : Heap} {c : Cl}
def sp_write_number : Sp := fun vs H Q _ => ∃ (k : Nat) (n : Int), vs = [.int k, .int n] ∧ k ≤ 8 ∧ ∀ p H', H p = none → Kp F0 H H' → H' p = some (.lst ((wn k n).map V.int)) → Q (.ref p) H'
theorem ok_write_number (T : Txt K mg c) : GF P w K mg base CX0 1 "write_number" sp_write_number := by
  obtain ⟨f, fd, F, gm⟩ := T.f_write_number
  refine ⟨f, fd, ["width", "number"], F.ok sc_write_number ?_ (fun cdv A outer s H vs Q E hr h => ?_), gm, F.kp, (F.binds (ps := ["width", "number"]) fun _ _ _ _ _ _ us hl => match us, hl with | [_, _], _ => rfl)⟩
  · rintro vs H Q E ⟨_, _, rfl, _⟩
    rfl
  · obtain ⟨n, z, rfl, hn, k⟩ := h
    refine ⟨_, (pss_one (ps_ret (pe_lc (own := [("k", 2)]) (g := (gName 2)) (tt := tYes) rfl sc_write_number.nd (pi_range1 (by rfl) T.z_range (pa_cons (pv 0) pa_nil)) (blkOk_by (N := ["width", "number", "k"]) (sc := defScope s_write_number) (by decide +kernel)) (fun _ _ _ _ _ => (pg_name (i := 2) sc_write_number.nd rfl (Or.inl rfl))) (fun _ _ _ _ _ => pts_nil) (fun _ _ _ _ _ => (pe_op o_and (pe_op op_shr (pv 1) (pe_op op_mul pe_int (pe_op op_sub (pe_op op_sub (pv 0) pe_int) (pv 2)))) pe_int))))), ?_⟩
    walk_at "cx"
    walk_at "rd"
    refine wlcP (ys := (wn n z).map V.int) Wk.rng (by rw [List.length_map, rgl_len, wn_len]; rfl) (by rw [rgl_len]; omega) (fun _ _ => trivial) (fun i x y H' R ex ey kp hR => ?_) (fun D H1 hD kp hDl => k D H1 hD kp hDl)
    obtain ⟨hi, rfl⟩ := rgl_at ex
    have hi' : i < n := hi
    rw [List.getElem?_map, wn_get hi'] at ey
    cases ey
    walk_at "rd"
    refine ⟨rfl, ?_⟩
    walk_at "rd"
    have e : 8 * ((n : Int) - 1 - (0 + (i : Nat))) = ((8 * (n - 1 - i) : Nat) : Int) := by omega
    have q := hR H' (Kp.refl _)
    rw [← pow_256] at q
    rw [e]
    exact q
def sp_read_number (K : PySem.W.Frag) : Sp := fun vs H Q _ => ∃ (a : Addr) (ds : List Int) (i k : Nat), vs = [.ref a, .int i, .int k] ∧ SqL K H a (ds.map V.int) ∧ ∀ H', Kp F0 H H' → Q (.int (rn ((ds.drop i).take k))) H'
theorem ok_read_number (T : Txt K mg c) : GF P w K mg base CX0 1 "read_number" (sp_read_number K) := by
  obtain ⟨f, fd, F, gm⟩ := T.f_read_number
  refine ⟨f, fd, ["data", "place", "width"], F.ok sc_read_number ?_ (fun cdv A outer s H vs Q E hr h => ?_), gm, F.kp, (F.binds (ps := ["data", "place", "width"]) fun _ _ _ _ _ _ us hl => match us, hl with | [_, _, _], _ => rfl)⟩
  · rintro vs H Q E ⟨_, _, _, _, rfl, _⟩
    rfl
  · obtain ⟨a, ds, i, n, rfl, ha, k⟩ := h
    refine ⟨_, (pss_cons (ps_set (i := 3) sc_read_number.nd rfl (Or.inl rfl) pe_int)
      (pss_cons (ps_for PassesOwn.never rfl (pi_listK rfl (pe_slice (r := rSlL K) sl_list (pv 0) (po_some (pv 1)) (po_some (pe_op op_add (pv 1) (pv 2))))) (pg_name (i := 4) sc_read_number.nd rfl (Or.inl rfl)) (pss_one (ps_set (i := 3) sc_read_number.nd rfl (Or.inl rfl) (pe_op op_add (pe_op op_mul (pv 3) pe_int) (pv 4)))))
      (pss_one (ps_ret (pv 3))))), ?_⟩
    walk_at "cx"
    walk_at "rd"
    refine x_slL ha fun l H1 hl kp hl1 => ?_
    rw [cut_mid (by omega) (by omega), show ((i : Int) + (n : Int) - (i : Int)).toNat = n by omega, Int.toNat_natCast] at hl1
    walk_at "rd"
    refine wfor Wk.list (fun j σ H' => ∃ u, σ = [some (.ref a), some (.int i), some (.int n), some (.int (rn (((ds.drop i).take n).take j))), u] ∧ H1 = H') ⟨none, rfl, rfl⟩ (fun j σ H' ⟨u, _, e⟩ => by rw [← e]; exact SqL.of hl1) ?_ ?_
    · rintro j x σ H' ex ⟨u, rfl, rfl⟩
      rw [List.getElem?_map] at ex
      cases q : ((ds.drop i).take n)[j]? with
      | none => rw [q] at ex; cases ex
      | some z =>
        rw [q] at ex
        cases ex
        walk_at "rd"
        refine ⟨some (.int z), ?_, rfl⟩
        rw [List.take_succ (l := (ds.drop i).take n), q]
        show _ = [some (V.ref a), some (V.int i), some (V.int n), some (V.int (rn (((ds.drop i).take n).take j ++ [z]))), some (V.int z)]
        rw [rn_app]; rfl
    · rintro σ H' ⟨u, rfl, rfl⟩
      walk_at "rd"
      rw [List.length_map, List.take_length]
      exact k H1 kp
def sp_write_point (K : PySem.W.Frag) : Sp := fun vs H Q _ => ∃ (a : Addr) (ps : List Int), vs = [.ref a] ∧ SqT K H a (ps.map V.int) ∧ ps.length ≤ 1000 ∧ ∀ p H', H p = none → Kp F0 H H' → H' p = some (.lst ((wp ps).map V.int)) → Q (.ref p) H'
theorem ok_write_point (T : Txt K mg c) : GF P w K mg base CX0 2 "write_point" (sp_write_point K) := by
  obtain ⟨f, fd, F, gm⟩ := T.f_write_point
  obtain ⟨_, mg_OFFSET⟩ := T.m_OFFSET
  refine ⟨f, fd, ["point"], F.ok sc_write_point ?_ (fun cdv A outer s H vs Q E hr h => ?_), gm, F.kp, (F.binds (ps := ["point"]) fun _ _ _ _ _ _ us hl => match us, hl with | [_], _ => rfl)⟩
  · rintro vs H Q E ⟨_, _, rfl, _⟩
    rfl
  · obtain ⟨a, ps, rfl, ha, hz, k⟩ := h
    refine ⟨_, (pss_cons (ps_set (i := 1) sc_write_point.nd rfl (Or.inl rfl) (pe_lst pa_nil))
      (pss_cons (ps_for PassesOwn.never rfl (pi_tupK rfl (pv 0)) (pg_name (i := 2) sc_write_point.nd rfl (Or.inl rfl)) (pss_one (ps_expr (pe_kBM rfl (pe_bm PySem.F.plainAttrs_list PySem.F.slot_list_extend PySem.F.type_list_extend mt_extend (pv 1) (pa_cons (pe_g (ok_write_number T) (hr.mono (by decide)) pass0S (pa_cons pe_int (pa_cons (pe_op op_add (pv 2) (pe_glob (v := .int 32768) rfl mg_OFFSET ⟨_, rfl⟩)) pa_nil))) pa_nil))))))
      (pss_one (ps_ret (pv 1))))), ?_⟩
    walk_at "cx"
    walk_at "rd"
    refine x_newL fun d H1 hd kp hd1 => ?_
    walk_at "rd"
    refine x_iT1 (kp.sqT ha) ?_
    refine wfor Wk.tup (fun j σ H' => ∃ u, σ = [some (.ref a), some (.ref d), u] ∧ H' d = some (.lst ((wp (ps.take j)).map V.int)) ∧ Kp F0 H H') ⟨none, rfl, hd1, kp⟩ (fun j σ H' ⟨u, _, _, kk⟩ => kk.sqT ha) ?_ ?_
    · rintro j x σ H' ex ⟨u, rfl, hd2, kk⟩
      rw [List.getElem?_map] at ex
      cases q : ps[j]? with
      | none => rw [q] at ex; cases ex
      | some z =>
        rw [q] at ex
        cases ex
        walk_at "rd"
        refine ⟨2, z + 32768, rfl, by decide, fun b H2 hb kp2 hb2 => ?_⟩
        have hd3 := kp2.get hd2 id
        walk_at "rd"
        have hl : (wp (ps.take j)).length ≤ 2000 := by rw [wp_len, List.length_take]; omega
        refine x_ext hd3 hb2 (by rw [List.length_map, List.length_map, wn_len]; omega) fun H3 h3 k3 => ?_
        refine ⟨some (.int z), rfl, ?_, (kk.trans kp2 fun _ z => z.elim).trans k3 fun b e => .inr (by rw [e]; exact hd)⟩
        rw [h3, ← List.map_append, List.take_succ, q, ← wp_app]; rfl
    · rintro σ H' ⟨u, rfl, hd2, kk⟩
      walk_at "rd"
      rw [List.length_map, List.take_length] at hd2
      exact k d H' hd kk hd2
def sp_read_point (K : PySem.W.Frag) : Sp := fun vs H Q _ => ∃ (a : Addr) (ds : List Int) (i d : Nat), vs = [.ref a, .int i, .int d] ∧ d ≤ 1000 ∧ SqL K H a (ds.map V.int) ∧ ∀ p H', H p = none → Kp F0 H H' → H' p = some (.tup ((rp ds i d).map V.int)) → Q (.ref p) H'
theorem ok_read_point (T : Txt K mg c) : GF P w K mg base CX0 2 "read_point" (sp_read_point K) := by
  obtain ⟨f, fd, F, gm⟩ := T.f_read_point
  obtain ⟨_, mg_OFFSET⟩ := T.m_OFFSET
  refine ⟨f, fd, ["data", "place", "dimensions"], F.ok sc_read_point ?_ (fun cdv A outer s H vs Q E hr h => ?_), gm, F.kp, (F.binds (ps := ["data", "place", "dimensions"]) fun _ _ _ _ _ _ us hl => match us, hl with | [_, _, _], _ => rfl)⟩
  · rintro vs H Q E ⟨_, _, _, _, rfl, _⟩
    rfl
  · obtain ⟨a, ds, i, d, rfl, hd, ha, k⟩ := h
    refine ⟨_, (pss_one (ps_ret (pe_callTy (r := rTupQ K) c_tuple (by rfl) T.z_tuple (by decide +kernel) (pa_cons (pe_lc (own := [("k", 3)]) (g := (gName 3)) (tt := tYes) rfl sc_read_point.nd (pi_range1 (by rfl) T.z_range (pa_cons (pv 2) pa_nil)) (blkOk_by (N := ["data", "place", "dimensions", "k"]) (sc := defScope s_read_point) (by decide +kernel)) (fun _ _ _ _ _ => (pg_name (i := 3) sc_read_point.nd rfl (Or.inl rfl))) (fun _ _ _ _ _ => pts_nil) (fun _ _ _ _ _ => (pe_op op_sub (pe_g (ok_read_number T) (hr.mono (by decide)) pass0S (pa_cons (pv 0) (pa_cons (pe_op op_add (pv 1) (pe_op op_mul pe_int (pv 3))) (pa_cons pe_int pa_nil)))) (pe_glob (v := .int 32768) rfl mg_OFFSET ⟨_, rfl⟩)))) pa_nil)))), ?_⟩
    walk_at "cx"
    walk_at "rd"
    have hn : ∀ {H' : Hp}, Kp F0 H H' → SqL K H' a (ds.map V.int) := fun kp => kp.sqL ha id
    refine wlcP (ys := (rp ds i d).map V.int) Wk.rng (by unfold rp; simp [rgl_len]) (by rw [rgl_len]; omega) (fun _ _ => trivial) (fun j x y H' R ex ey kp hR => ?_) (fun D H1 hD kp hDl => ?_)
    · obtain ⟨hj, rfl⟩ := rgl_at ex
      have hj' : j < d := hj
      unfold rp at ey
      rw [List.getElem?_map, List.getElem?_map, List.getElem?_range hj'] at ey
      cases ey
      walk_at "rd"
      refine ⟨rfl, ?_⟩
      walk_at "rd"
      refine ⟨a, ds, i + 2 * j, 2, by simp, hn kp, fun H2 k2 => ?_⟩
      walk_at "rd"
      exact hR H2 k2
    · walk_at "rd"
      refine x_tupL (SqL.of hDl) fun l H2 hl kp2 hp => ?_
      exact k l H2 (kp.free hl id) (kp.trans kp2 fun _ z => z.elim) hp
end
section
variable {P : Program} {w : World} {K : PySem.W.Frag} {mg : Str → Option Value} {base : Heap} {c : Cl}
def sp_read_groups (K : PySem.W.Frag) : Sp := fun vs H Q _ => ∃ a ds gs more j, vs = [.ref a] ∧ SqL K H a (ds.map V.int) ∧ ds = gs.flatMap wg ++ (wg more).take j ∧ j < (wg more).length ∧ (∀ g ∈ gs, Good g) ∧ Good more ∧ gs.length ≤ 100000 ∧
  ∀ r H', H r = none → Kp F0 H H' → GsAt (fun b => H b = none) H' r gs → Q (.ref r) H'
theorem ok_read_groups (T : Txt K mg c) : GF P w K mg base CX0 2 "read_groups" (sp_read_groups K) := by
  obtain ⟨f, fd, F, gm⟩ := T.f_read_groups
  obtain ⟨_, mg_NUMBER_SIZE⟩ := T.m_NUMBER_SIZE
  obtain ⟨_, mg_PAGE_SIZE⟩ := T.m_PAGE_SIZE
  refine ⟨f, fd, ["data"], F.ok sc_read_groups ?_ (fun cdv A outer s H vs Q E hr h => ?_), gm, F.kp, (F.binds (ps := ["data"]) fun _ _ _ _ _ _ us hl => match us, hl with | [_], _ => rfl)⟩
  · rintro vs H Q E ⟨_, _, _, _, _, rfl, _⟩
    rfl
  · obtain ⟨a, ds, gs, more, j, rfl, ha, eds, hj, hgs, hm, lgs, k⟩ := h
    refine ⟨_, (pss_cons (ps_set (i := 1) sc_read_groups.nd rfl (Or.inl rfl) (pe_lst pa_nil))
      (pss_cons (ps_set (i := 2) sc_read_groups.nd rfl (Or.inl rfl) pe_int)
      (pss_cons (ps_while PassesOwn.never (pt_cmpR op_le (pe_op op_add (pv 2) (pe_glob (v := .int 4) rfl mg_NUMBER_SIZE ⟨_, rfl⟩)) (pe_callB (r := rLenQ K) c_len (by rfl) T.z_len PySem.boot_len (pa_cons (pv 0) pa_nil)) (nomark _)) (pss_cons (ps_set (i := 3) sc_read_groups.nd rfl (Or.inl rfl) (pe_g (ok_read_number T) (hr.mono (by decide)) pass0S (pa_cons (pv 0) (pa_cons (pv 2) (pa_cons (pe_glob (v := .int 4) rfl mg_NUMBER_SIZE ⟨_, rfl⟩) pa_nil)))))
      (pss_cons (ps_aug (i := 2) sc_read_groups.nd rfl (Or.inl rfl) (pe_glob (v := .int 4) rfl mg_NUMBER_SIZE ⟨_, rfl⟩) ip_add)
      (pss_cons (ps_if (pt_cmpR op_gt (pe_op op_add (pv 2) (pe_op op_mul (pv 3) (pe_op op_add (pe_glob (v := .int 4) rfl mg_NUMBER_SIZE ⟨_, rfl⟩) (pe_glob (v := .int 256) rfl mg_PAGE_SIZE ⟨_, rfl⟩)))) (pe_callB (r := rLenQ K) c_len (by rfl) T.z_len PySem.boot_len (pa_cons (pv 0) pa_nil)) (nomark _)) (pss_one (ps_ret (pv 1))) pss_nil)
      (pss_cons (ps_set (i := 4) sc_read_groups.nd rfl (Or.inl rfl) (pe_lst pa_nil))
      (pss_cons (ps_for PassesOwn.never rfl (pi_range1 (by rfl) T.z_range (pa_cons (pv 3) pa_nil)) (pg_name (i := 5) sc_read_groups.nd rfl (Or.inl rfl)) (pss_cons (ps_set (i := 6) sc_read_groups.nd rfl (Or.inl rfl) (pe_op op_add (pv 2) (pe_glob (v := .int 4) rfl mg_NUMBER_SIZE ⟨_, rfl⟩)))
      (pss_cons (ps_expr (pe_kBM rfl (pe_bm PySem.F.plainAttrs_list PySem.F.slot_list_append PySem.F.type_list_append mt_append (pv 4) (pa_cons (pe_tup (pa_cons (pe_g (ok_read_number T) (hr.mono (by decide)) pass0S (pa_cons (pv 0) (pa_cons (pv 2) (pa_cons (pe_glob (v := .int 4) rfl mg_NUMBER_SIZE ⟨_, rfl⟩) pa_nil)))) (pa_cons (pe_slice (r := rSlL K) sl_list (pv 0) (po_some (pv 6)) (po_some (pe_op op_add (pv 6) (pe_glob (v := .int 256) rfl mg_PAGE_SIZE ⟨_, rfl⟩)))) pa_nil))) pa_nil))))
      (pss_one (ps_set (i := 2) sc_read_groups.nd rfl (Or.inl rfl) (pe_op op_add (pv 6) (pe_glob (v := .int 256) rfl mg_PAGE_SIZE ⟨_, rfl⟩)))))))
      (pss_one (ps_expr (pe_kBM rfl (pe_bm PySem.F.plainAttrs_list PySem.F.slot_list_append PySem.F.type_list_append mt_append (pv 1) (pa_cons (pv 4) pa_nil)))))))))))
      (pss_one (ps_ret (pv 1)))))), ?_⟩
    walk_at "cx"
    walk_at "rd"
    refine x_newL fun r H1 hr1 k1 e1 => ?_
    walk_at "rd"
    refine x_wh (fun m σ H' => ∃ i vs u3 u4 u5 u6, m = gs.length - i ∧ i ≤ gs.length ∧ σ = [some (.ref a), some (.ref r), some (.int ((gs.take i).flatMap wg).length), u3, u4, u5, u6] ∧ H' r = some (.lst vs) ∧ vs.length = i ∧ Paired (GAt (fun b => H b = none ∧ b ≠ r) H') vs (gs.take i) ∧ Kp F0 H H')
      ⟨_, 0, [], none, none, none, none, rfl, Nat.zero_le _, rfl, e1, rfl, .nil, k1⟩ ?_
    rintro m σ H2 ⟨i, vs, u3, u4, u5, u6, rfl, hi, rfl, er, lvs, hv, kk⟩
    have fin : ∀ H3, Kp F0 H2 H3 → i = gs.length → Q (.ref r) H3 := fun H3 k3 e => by
      refine k r H3 hr1 (kk.trans k3 fun _ z => z.elim) ⟨vs, k3.get er id, hr1, ?_⟩
      rw [e, List.take_length] at hv
      exact hv.mono fun _ _ x => (x.own fun b _ o => o.1).kp k3 fun _ _ _ _ z => z
    generalize hA : (gs.take i).flatMap wg = A
    have ha2 := kk.sqL ha id
    by_cases hlt : i < gs.length
    · obtain ⟨g, eg⟩ : ∃ g, gs[i]? = some g := ⟨_, List.getElem?_eq_getElem hlt⟩
      have gg := hgs g (List.mem_of_getElem? eg)
      generalize hT : (gs.drop (i + 1)).flatMap wg ++ (wg more).take j = Tl
      have ed : ds = A ++ (wg g ++ Tl) := by rw [eds, flat_at _ eg, hA, hT]
      have ld : ds.length = A.length + (4 + 260 * g.length) + Tl.length := by rw [ed, List.length_append, List.length_append, wg_len gg]; omega
      have := gg.n
      walk_at "rd"
      rw [List.length_map]
      refine if_dtt (by omega) ?_
      refine ⟨_, fun _ _ z => z, ?_⟩
      walk_at "rd"
      refine ⟨a, ds, A.length, 4, rfl, ha2, fun H3 k3 => ?_⟩
      rw [rd_count gg ed]
      have ha3 := k3.sqL ha2 id
      have er3 := k3.get er id
      walk_at "rd"
      refine x_augv rfl ?_
      walk_at "rd"
      refine x_ipI ?_
      walk_at "rd"
      rw [List.length_map]
      refine if_dff (by omega) ?_
      walk_at "rd"
      refine x_newL fun p H4 hp4 k4 e4 => ?_
      have ha4 := k4.sqL ha3 id
      have er4 := k4.get er3 id
      have nrp : r ≠ p := ne_of_none er3 hp4
      walk_at "rd"
      refine wfor Wk.rng (fun t σ H' => ∃ ws u5 u6, σ = [some (.ref a), some (.ref r), some (.int ((A.length + 4 + 260 * t : Nat) : Int)), some (.int g.length), some (.ref p), u5, u6] ∧ H' p = some (.lst ws) ∧ ws.length = t ∧ Paired (PAt (fun b => (H b = none ∧ b ≠ r) ∧ b ≠ p) H') ws (g.take t) ∧ Kp F0 H3 H')
        ⟨[], u5, u6, by simp, e4, rfl, .nil, k4⟩ (fun _ _ _ _ => trivial) ?_ ?_
      · rintro t x σ H5 ex ⟨ws, u5, u6, rfl, ep, lt, hw, kk5⟩
        obtain ⟨ht, rfl⟩ := rgl_at ex
        have ht' : t < g.length := by have : t < (g.length : Int).toNat := ht; omega
        obtain ⟨q, eq⟩ : ∃ q, g[t]? = some q := ⟨_, List.getElem?_eq_getElem ht'⟩
        have rc := rd_chunk gg ed eq
        have ha5 := kk5.sqL ha3 id
        walk_at "rd"
        refine ⟨a, ds, A.length + 4 + 260 * t, 4, rfl, ha5, fun H6 k6 => ?_⟩
        rw [rc.1]
        walk_at "rd"
        refine x_slL (k6.sqL ha5 id) fun l H7 hl k7 e7 => ?_
        rw [cut_mid (by omega) (by omega), show ((((A.length + 4 + 260 * t : Nat) : Int) + 4).toNat) = A.length + 4 + 260 * t + 4 by omega, show ((((A.length + 4 + 260 * t : Nat) : Int) + 4 + 256 - (((A.length + 4 + 260 * t : Nat) : Int) + 4)).toNat) = 256 by omega, rc.2] at e7
        walk_at "rd"
        refine x_newT fun tp H8 htp k8 e8 => ?_
        have k58 : Kp F0 H5 H8 := (k6.trans k7 fun _ z => z.elim).trans k8 fun _ z => z.elim
        have ep8 := k58.get ep id
        walk_at "rd"
        refine x_app ep8 (by have := gg.n; omega) fun H9 e9 k9 => ?_
        walk_at "rd"
        have k35 : Kp F0 H3 H7 := (kk5.trans k6 fun _ z => z.elim).trans k7 fun _ z => z.elim
        have hl3 : H3 l = none := kk5.free (k6.free hl id) id
        have er5 := (kk5.trans k6 fun _ z => z.elim).get er3 id
        have ep6 := k6.get ep id
        have nlr : l ≠ r := (ne_of_none er5 hl).symm
        have nlp : l ≠ p := (ne_of_none ep6 hl).symm
        refine ⟨ws ++ [.ref tp], some (.int (0 + (t : Int))), some (.int (((A.length + 4 + 260 * t : Nat) : Int) + 4)), ?_, e9, by rw [List.length_append, lt]; rfl, ?_, (kk5.trans k58 fun _ z => z.elim).trans k9 fun x z => .inr (by rw [z]; exact hp4)⟩
        · rw [show (((A.length + 4 + 260 * (t + 1) : Nat)) : Int) = ((A.length + 4 + 260 * t : Nat) : Int) + 4 + 256 by omega]; rfl
        · rw [List.take_succ, eq]
          refine Paired.snoc (hw.mono fun _ _ x => (x.kp k58 fun _ _ _ _ z => z).kp k9 fun b _ _ o z => o.2 z) ⟨tp, l, rfl, k9.tup e8, k9.get (k8.get e7 id) nlp, ⟨kk.free (k3.free hl3 id) id, nlr⟩, nlp⟩
      · rintro σ H5 ⟨ws, u5, u6, rfl, ep, lt, hw, kk5⟩
        have er5 := kk5.get er3 id
        have hlen : (rgl 0 (g.length : Int).toNat).length = g.length := by rw [rgl_len]; omega
        rw [hlen] at lt hw
        rw [hlen]
        rw [List.take_length] at hw
        walk_at "rd"
        refine x_app er5 (by omega) fun H6 e6 k6 => ?_
        have k26 : Kp (F1 r) H2 H6 := ((k3.mono fun _ z => z.elim).trans kk5 fun _ z => z.elim).trans k6 fun _ z => .inl z
        have hpH : H p = none := kk.free (k3.free hp4 id) id
        refine ⟨gs.length - (i + 1), by omega, i + 1, vs ++ [.ref p], some (.int g.length), some (.ref p), u5, u6, rfl, hlt, ?_, e6, by rw [List.length_append, lvs]; rfl, ?_, kk.trans k26 fun x z => .inr (by rw [z]; exact hr1)⟩
        · rw [takes eg, hA, List.length_append, wg_len gg, show ((A.length + (4 + 260 * g.length) : Nat) : Int) = ((A.length + 4 + 260 * g.length : Nat) : Int) by omega]
        · rw [List.take_succ, eg]
          refine Paired.snoc (hv.mono fun _ _ x => x.kp k26 fun b _ _ o z => o.2 z) ⟨p, ws, rfl, k6.get ep nrp.symm, ⟨hpH, nrp.symm⟩, hw.mono fun _ _ x => (x.own fun b _ o => o.1).kp k6 fun b _ _ o z => o.2 z⟩
    · have ei : i = gs.length := by omega
      have eA : gs.flatMap wg = A := by rw [← hA, ei, List.take_length]
      have ed : ds = A ++ (wg more).take j := by rw [eds, eA]
      have ld : ds.length = A.length + j := by rw [ed, List.length_append, List.length_take]; omega
      have lm := wg_len hm
      walk_at "rd"
      rw [List.length_map]
      by_cases h4 : 4 ≤ j
      · refine if_dtt (by omega) ?_
        refine ⟨_, fun _ _ z => z, ?_⟩
        walk_at "rd"
        refine ⟨a, ds, A.length, 4, rfl, ha2, fun H3 k3 => ?_⟩
        rw [rd_part hm ed h4]
        have ha3 := k3.sqL ha2 id
        walk_at "rd"
        refine x_augv rfl ?_
        walk_at "rd"
        refine x_ipI ?_
        walk_at "rd"
        rw [List.length_map]
        refine if_dtt (by omega) ?_
        walk_at "rd"
        exact fin H3 k3 ei
      · refine if_dff (by omega) ?_
        walk_at "rd"
        exact fin H2 (Kp.refl _) ei
end
/-! ### the device -/
structure DevS where
  pages : List (Int × List Int)
  writes : List (Int × List Int)
  log : List Int
  steps : List (Option Int)
  done : Int
  most : Option Int
def oV : Option Int → V
  | none => .non
  | some i => .int i
def aget (l : List (Int × List Int)) (n : Int) : Option (List Int) := (l.find? fun q => decide (q.1 = n)).map (·.2)
def aput (l : List (Int × List Int)) (n : Int) (v : List Int) : List (Int × List Int) :=
  if (l.any fun q => decide (q.1 = n)) = true then l.map (fun q => if q.1 = n then (q.1, v) else q) else l ++ [(n, v)]
def zeros : List Int := List.replicate 256 0
/-- a page's durable content -/
def dpg (d : DevS) (n : Int) : List Int := (aget d.pages n).getD zeros
/-- a page's content behind all pending writes -/
def cpg (d : DevS) (n : Int) : List Int := match d.writes.reverse.find? fun q => decide (q.1 = n) with
  | some q => q.2
  | none => dpg d n
def lstep (l : List Int) : Option Int → List Int
  | none => []
  | some b => l ++ [b]
def clog (d : DevS) : List Int := d.steps.foldl lstep d.log
def can (d : DevS) : Bool := match d.most with
  | none => true
  | some m => decide (d.done < m)
/-- one step of power, then f -/
def pw (d : DevS) (f : DevS → DevS) : DevS × Bool := if can d = true then (f { d with done := d.done + 1 }, true) else (d, false)
def dWrite (n : Int) (ds : List Int) (d : DevS) : DevS × Bool := pw d fun d => { d with writes := d.writes ++ [(n, ds)] }
def dSyncP (d : DevS) : DevS × Bool := pw d fun d => { d with pages := d.writes.foldl (fun l q => aput l q.1 q.2) d.pages, writes := [] }
def dByte (b : Option Int) (d : DevS) : DevS × Bool := pw d fun d => { d with steps := d.steps ++ [b] }
def dApp : List Int → DevS → DevS × Bool
  | [], d => (d, true)
  | b :: r, d => if (dByte (some b) d).2 = true then dApp r (dByte (some b) d).1 else (d, false)
def dSyncL (d : DevS) : DevS × Bool := pw d fun d => { d with log := clog d, steps := [] }
def dLimit (s : Option Int) (d : DevS) : DevS := { d with most := s.map fun s => d.done + s }
def dFate (pages : List (Int × List Int)) (q : (Int × List Int) × Int) : List (Int × List Int) :=
  if q.2 = 1 then aput pages q.1.1 q.1.2 else if q.2 = 2 then aput pages q.1.1 (q.1.2.take 128 ++ ((aget pages q.1.1).getD zeros).drop 128) else pages
def dCrash (fates : List Int) (kept : Nat) (d : DevS) : DevS :=
  { pages := (d.writes.zip fates).foldl dFate d.pages, writes := [], log := (d.steps.take kept).foldl lstep d.log, steps := [], done := d.done, most := none }
/-- a list of the owned ones that never changes -/
def Im (H : Hp) (O G : Addr → Prop) (a : Addr) (ds : List Int) : Prop := H a = some (.lst (ds.map V.int)) ∧ O a ∧ ¬ G a
def RPg (H : Hp) (O G : Addr → Prop) (p : Key × V) (q : Int × List Int) : Prop := p.1 = .inl q.1 ∧ ∃ a, p.2 = .ref a ∧ Im H O G a q.2
def RWr (H : Hp) (O G : Addr → Prop) (v : V) (q : Int × List Int) : Prop := ∃ t a, v = .ref t ∧ H t = some (.tup [.int q.1, .ref a]) ∧ Im H O G a q.2
theorem Im.kp {F O G : Addr → Prop} {H H' : Hp} {a : Addr} {ds : List Int} (s : Kp F H H') (h : Im H O G a ds) (n : ∀ b, F b → G b) : Im H' O G a ds := ⟨s.get h.1 fun z => h.2.2 (n _ z), h.2⟩
theorem RPg.im {H H' : Hp} {O O' G G' : Addr → Prop} {p : Key × V} {q : Int × List Int} (f : ∀ a ds, Im H O G a ds → Im H' O' G' a ds) (h : RPg H O G p q) : RPg H' O' G' p q := by
  obtain ⟨e, a, ev, i⟩ := h
  exact ⟨e, a, ev, f _ _ i⟩
theorem RWr.im {F : Addr → Prop} {H H' : Hp} {O O' G G' : Addr → Prop} {v : V} {q : Int × List Int} (s : Kp F H H') (f : ∀ a ds, Im H O G a ds → Im H' O' G' a ds) (h : RWr H O G v q) : RWr H' O' G' v q := by
  obtain ⟨t, a, ev, ht, i⟩ := h
  exact ⟨t, a, ev, s.tup ht, f _ _ i⟩
theorem RPg.kp {F O G : Addr → Prop} {H H' : Hp} {p : Key × V} {q : Int × List Int} (s : Kp F H H') (n : ∀ b, F b → G b) (h : RPg H O G p q) : RPg H' O G p q := h.im fun _ _ i => i.kp s n
theorem RWr.kp {F O G : Addr → Prop} {H H' : Hp} {v : V} {q : Int × List Int} (s : Kp F H H') (n : ∀ b, F b → G b) (h : RWr H O G v q) : RWr H' O G v q := h.im s fun _ _ i => i.kp s n
def DevG (p a1 a2 a4 : Addr) : Addr → Prop := fun b => b = p ∨ b = a1 ∨ b = a2 ∨ b = a4
structure DevA (c : Cl) (O : Addr → Prop) (H : Hp) (p dx a1 a2 a3 a4 : Addr) (kvs : List (Key × V)) (ws : List V) (d : DevS) : Prop where
  o : H p = some (.ins c.Device dx (F_Device (.ref a1) (.ref a2) (.ref a3) (.ref a4) (.int d.done) (oV d.most)))
  pg : H a1 = some (.dK kvs)
  pr : Paired (RPg H O (DevG p a1 a2 a4)) kvs d.pages
  wr : H a2 = some (.lst ws)
  wp : Paired (RWr H O (DevG p a1 a2 a4)) ws d.writes
  lg : Im H O (DevG p a1 a2 a4) a3 d.log
  st : H a4 = some (.lst (d.steps.map oV))
  ne : a2 ≠ a4
  ow : ∀ b, DevG p a1 a2 a4 b → O b
/-- a device at p that owns O -/
def DevAt (c : Cl) (H : Hp) (p : Addr) (O : Addr → Prop) (d : DevS) : Prop := (∃ dx a1 a2 a3 a4 kvs ws, DevA c O H p dx a1 a2 a3 a4 kvs ws d) ∧ ∀ b, O b → ∃ o, H b = some o
/-- what was owned or is new, and stands -/
def nO (O : Addr → Prop) (H H' : Hp) : Addr → Prop := fun x => (O x ∨ H x = none) ∧ ∃ o, H' x = some o
/-- a state with its objects told goes through a step that leaves them -/
theorem DevA.im {c : Cl} {F O O' : Addr → Prop} {H H' : Hp} {p dx a1 a2 a3 a4 : Addr} {kvs : List (Key × V)} {ws : List V} {d : DevS} (s : Kp F H H') (h : DevA c O H p dx a1 a2 a3 a4 kvs ws d) (n : ∀ b, F b → ¬ DevG p a1 a2 a4 b)
    (f : ∀ a ds, Im H O (DevG p a1 a2 a4) a ds → Im H' O' (DevG p a1 a2 a4) a ds) (g : ∀ b, DevG p a1 a2 a4 b → O' b) : DevA c O' H' p dx a1 a2 a3 a4 kvs ws d where
  o := s.get h.o fun z => n _ z (.inl rfl)
  pg := s.get h.pg fun z => n _ z (.inr (.inl rfl))
  pr := Paired.mono (fun _ _ r => r.im f) h.pr
  wr := s.get h.wr fun z => n _ z (.inr (.inr (.inl rfl)))
  wp := Paired.mono (fun _ _ r => r.im s f) h.wp
  lg := f _ _ h.lg
  st := s.get h.st fun z => n _ z (.inr (.inr (.inr rfl)))
  ne := h.ne
  ow := g
theorem DevA.same {c : Cl} {O : Addr → Prop} {H H' : Hp} {p dx a1 a2 a3 a4 : Addr} {kvs : List (Key × V)} {ws : List V} {d : DevS} (s : Kp F0 H H') (h : DevA c O H p dx a1 a2 a3 a4 kvs ws d) : DevA c O H' p dx a1 a2 a3 a4 kvs ws d := h.im s (fun _ z => z.elim) (fun _ _ i => i.kp s fun _ z => z.elim) h.ow
theorem DevA.own {c : Cl} {O O' : Addr → Prop} {H : Hp} {p dx a1 a2 a3 a4 : Addr} {kvs : List (Key × V)} {ws : List V} {d : DevS} (h : DevA c O H p dx a1 a2 a3 a4 kvs ws d) (n : ∀ b, O b → O' b) : DevA c O' H p dx a1 a2 a3 a4 kvs ws d :=
  h.im (Kp.refl (F := F0) _) (fun _ z => z.elim) (fun _ _ i => ⟨i.1, n _ i.2.1, i.2.2⟩) fun b z => n _ (h.ow b z)
theorem DevAt.off {c : Cl} {F O : Addr → Prop} {H H' : Hp} {p : Addr} {d : DevS} (s : Kp F H H') (h : DevAt c H p O d) (n : ∀ b, F b → ¬ O b) : DevAt c H' p O d := by
  obtain ⟨⟨dx, a1, a2, a3, a4, kvs, ws, D⟩, t⟩ := h
  refine ⟨⟨dx, a1, a2, a3, a4, kvs, ws, D.im s (fun b z g => n b z (D.ow b g)) (fun a ds i => ⟨s.get i.1 fun z => n _ z i.2.1, i.2⟩) D.ow⟩, fun b z => ?_⟩
  obtain ⟨o, ho⟩ := t b z
  exact ⟨o, s.get ho fun y => n b y z⟩
theorem DevAt.same {c : Cl} {H H' : Hp} {p : Addr} {O : Addr → Prop} {d : DevS} (s : Kp F0 H H') (h : DevAt c H p O d) : DevAt c H' p O d := h.off s fun _ z => z.elim
theorem DevAt.fresh {c : Cl} {H : Hp} {p b : Addr} {O : Addr → Prop} {d : DevS} (h : DevAt c H p O d) (hb : H b = none) : ¬ O b := fun z => by
  obtain ⟨o, ho⟩ := h.2 b z
  rw [hb] at ho; cases ho
section
variable {c : Cl} {O : Addr → Prop} {H : Hp} {p dx a1 a2 a3 a4 : Addr} {kvs : List (Key × V)} {ws : List V} {d : DevS}
theorem DevA.n12 (h : DevA c O H p dx a1 a2 a3 a4 kvs ws d) : a1 ≠ a2 := ne_of h.pg h.wr (by intro z; cases z)
theorem DevA.n14 (h : DevA c O H p dx a1 a2 a3 a4 kvs ws d) : a1 ≠ a4 := ne_of h.pg h.st (by intro z; cases z)
theorem DevA.np1 (h : DevA c O H p dx a1 a2 a3 a4 kvs ws d) : p ≠ a1 := ne_of h.o h.pg (by intro z; cases z)
theorem DevA.np2 (h : DevA c O H p dx a1 a2 a3 a4 kvs ws d) : p ≠ a2 := ne_of h.o h.wr (by intro z; cases z)
theorem DevA.np4 (h : DevA c O H p dx a1 a2 a3 a4 kvs ws d) : p ≠ a4 := ne_of h.o h.st (by intro z; cases z)
end
theorem DevAt.opn {c : Cl} {H : Hp} {p : Addr} {O0 : Addr → Prop} {d : DevS} (h : DevAt c H p O0 d) : ∃ (O : Addr → Prop) (dx a1 a2 a3 a4 : Addr) (kvs : List (Key × V)) (ws : List V),
    O = (fun x => O0 x ∨ H x = none) ∧ DevA c O H p dx a1 a2 a3 a4 kvs ws d ∧ ∀ b, DevG p a1 a2 a4 b → O0 b := by
  obtain ⟨⟨dx, a1, a2, a3, a4, kvs, ws, D⟩, _⟩ := h
  exact ⟨_, dx, a1, a2, a3, a4, kvs, ws, rfl, D.own fun _ z => .inl z, D.ow⟩
theorem DevA.clo {c : Cl} {O O0 : Addr → Prop} {H H' : Hp} {p dx a1 a2 a3 a4 : Addr} {kvs : List (Key × V)} {ws : List V} {d : DevS} (D : DevA c O H' p dx a1 a2 a3 a4 kvs ws d) (e : O = fun x => O0 x ∨ H x = none) : DevAt c H' p (nO O0 H H') d := by
  subst e
  refine ⟨⟨dx, a1, a2, a3, a4, kvs, ws, D.im (Kp.refl (F := F0) _) (fun _ z => z.elim) (fun a ds i => ⟨i.1, ⟨i.2.1, _, i.1⟩, i.2.2⟩) fun b z => ⟨D.ow b z, ?_⟩⟩, fun b z => z.2⟩
  rcases z with rfl | rfl | rfl | rfl
  · exact ⟨_, D.o⟩
  · exact ⟨_, D.pg⟩
  · exact ⟨_, D.wr⟩
  · exact ⟨_, D.st⟩
theorem Stp.nO {G O0 : Addr → Prop} {H H' : Hp} (k : Kp G H H') (g : ∀ b, G b → O0 b) : Stp O0 (nO O0 H H') H H' := ⟨k.mono fun b z => .inl (g b z), fun _ z => z.1⟩
section
variable {P : Program} {w : World} {K : PySem.W.Frag} {mg : Str → Option Value} {base : Heap} {c : Cl}
def sp_Device_init (c : Cl) : Sp := fun vs H Q _ => ∃ p dx, vs = [.ref p] ∧ H p = some (.ins c.Device dx []) ∧ ∀ H' O, DevAt c H' p O ⟨[], [], [], [], 0, none⟩ → Kp (F1 p) H H' → (∀ b, O b → b = p ∨ H b = none) → Q .non H'
theorem mk_Device (T : Txt K mg c) : GC P w K mg base CX0 1 "Device" c.Device (sp_Device_init c) := by
  obtain ⟨f, fd, F, gf, gi⟩ := T.f_Device___init__
  have tc := T.cl_Device; have t1 := T.n_Device_pages; have t2 := T.n_Device_page_writes; have t3 := T.n_Device_durable_log; have t4 := T.n_Device_log_steps; have t5 := T.n_Device_done; have t6 := T.n_Device_most
  refine ⟨f, fd, ["self"], F.ok sc_Device___init__ ?_ (fun cdv A outer s H vs Q E hr h => ?_), ⟨T.mk_Device.1, gf, gi, T.mk_Device.2⟩, T.mg_Device, (F.binds (ps := ["self"]) fun _ _ _ _ _ _ us hl => match us, hl with | [_], _ => rfl)⟩
  · rintro vs H Q E ⟨_, _, rfl, _⟩
    rfl
  · obtain ⟨p, dx, rfl, hp, k⟩ := h
    refine ⟨_, (pss_cons (ps_fld (pv 0) pe_dnewK rfl)
      (pss_cons (ps_fld (pv 0) (pe_lst pa_nil) rfl)
      (pss_cons (ps_fld (pv 0) (pe_lst pa_nil) rfl)
      (pss_cons (ps_fld (pv 0) (pe_lst pa_nil) rfl)
      (pss_cons (ps_fld (pv 0) pe_int rfl)
      (pss_one (ps_fld (pv 0) pe_non rfl))))))), ?_⟩
    walk_at "cx"
    walk_at "rd"
    refine x_dnew fun a1 H1 ha1 k1 h1 => ?_
    have n1 : p ≠ a1 := ne_of_none hp ha1
    walk_at "rd"
    intro H2 p2 k2
    have h1' := k2.get h1 n1.symm
    walk_at "rd"
    refine x_newL fun a2 H3 ha2 k3 h2 => ?_
    have n2 : p ≠ a2 := ne_of_none p2 ha2
    have n12 : a1 ≠ a2 := ne_of_none h1' ha2
    walk_at "rd"
    intro H4 p4 k4
    walk_at "rd"
    refine x_newL fun a3 H5 ha3 k5 h3 => ?_
    have n3 : p ≠ a3 := ne_of_none p4 ha3
    have h1d := k4.get (k3.get h1' id) n1.symm
    have h2d := k4.get h2 n2.symm
    have n13 : a1 ≠ a3 := ne_of_none h1d ha3
    have n23 : a2 ≠ a3 := ne_of_none h2d ha3
    walk_at "rd"
    intro H6 p6 k6
    walk_at "rd"
    refine x_newL fun a4 H7 ha4 k7 h4 => ?_
    have n4 : p ≠ a4 := ne_of_none p6 ha4
    have h1f := k6.get (k5.get h1d id) n1.symm
    have h2f := k6.get (k5.get h2d id) n2.symm
    have h3f := k6.get h3 n3.symm
    have n24 : a2 ≠ a4 := ne_of_none h2f ha4
    have n34 : a3 ≠ a4 := ne_of_none h3f ha4
    walk_at "rd"
    intro H8 p8 k8
    walk_at "rd"
    intro H9 p9 k9
    walk_at "rd"
    intro H10 p10 k10
    have kk : ∀ {b o}, H7 b = some o → p ≠ b → H10 b = some o := fun hb n => k10.get (k9.get (k8.get hb n.symm) n.symm) n.symm
    have f2 : H a2 = none := k1.free (k2.free ha2 n2.symm) id
    have f3 : H a3 = none := k1.free (k2.free (k3.free (k4.free ha3 n3.symm) id) n3.symm) id
    have f4 : H a4 = none := k1.free (k2.free (k3.free (k4.free (k5.free (k6.free ha4 n4.symm) id) n4.symm) id) n4.symm) id
    have D : DevA c (fun x => F1 p x ∨ H x = none) H10 p dx a1 a2 a3 a4 [] [] ⟨[], [], [], [], 0, none⟩ := ⟨p10, kk (k7.get h1f id) n1, .nil, kk (k7.get h2f id) n2, .nil, ⟨kk (k7.get h3f id) n3, .inr f3, by
      rintro (z | z | z | z)
      · exact n3 z.symm
      · exact n13 z.symm
      · exact n23 z.symm
      · exact n34 z⟩, kk h4 n4, n24, by
      rintro b (z | z | z | z)
      · exact .inl z
      · exact .inr (by rw [z]; exact ha1)
      · exact .inr (by rw [z]; exact f2)
      · exact .inr (by rw [z]; exact f4)⟩
    refine k H10 _ (D.clo rfl) ?_ fun b z => z.1
    · have e0 : ∀ b, F0 b → F1 p b ∨ H b = none := fun _ z => z.elim
      have e1 : ∀ b, F1 p b → F1 p b ∨ H b = none := fun _ z => .inl z
      exact (((((((((k1.mono e0).trans k2 e1).trans k3 e0).trans k4 e1).trans k5 e0).trans k6 e1).trans k7 e0).trans k8 e1).trans k9 e1).trans k10 e1
theorem DevA.mk' {O : Addr → Prop} {H H' : Hp} {p dx a1 a2 a3 a4 : Addr} {kvs : List (Key × V)} {ws : List V} {d : DevS} {n : Int} {m : Option Int} (h : DevA c O H p dx a1 a2 a3 a4 kvs ws d) (s : Kp (F1 p) H H')
    (o : H' p = some (.ins c.Device dx (F_Device (.ref a1) (.ref a2) (.ref a3) (.ref a4) (.int n) (oV m)))) : DevA c O H' p dx a1 a2 a3 a4 kvs ws { d with done := n, most := m } := by
  have q : ∀ a ds, Im H O (DevG p a1 a2 a4) a ds → Im H' O (DevG p a1 a2 a4) a ds := fun a ds i => i.kp s fun b z => .inl z
  exact ⟨o, s.get h.pg h.np1.symm, Paired.mono (fun _ _ ⟨e, a, ev, i⟩ => ⟨e, a, ev, q _ _ i⟩) h.pr, s.get h.wr h.np2.symm, Paired.mono (fun _ _ ⟨t, a, ev, ht, i⟩ => ⟨t, a, ev, s.tup ht, q _ _ i⟩) h.wp, q _ _ h.lg, s.get h.st h.np4.symm, h.ne, h.ow⟩
def sp_Device_step (c : Cl) : Sp := fun vs H Q E => ∃ O p dx a1 a2 a3 a4 kvs ws d, vs = [.ref p] ∧ DevA c O H p dx a1 a2 a3 a4 kvs ws d ∧
  (can d = true → ∀ H', DevA c O H' p dx a1 a2 a3 a4 kvs ws { d with done := d.done + 1 } → Kp (F1 p) H H' → Q .non H') ∧ (can d = false → E (.ref c.PowerCut) none H)
theorem ok_Device_step (T : Txt K mg c) : GM P w K mg base (L2.CX P w) 1 c.Device "step" (sp_Device_step c) := by
  obtain ⟨f, fd, F, gf, gi⟩ := T.f_Device_step
  have tc := T.cl_Device; have t5 := T.n_Device_done; have t6 := T.n_Device_most
  refine ⟨f, fd, ["self"], F.okX sc_Device_step ?_ (fun cdv A outer s H vs Q E hr h => ?_), ⟨gf, gi, F.kp⟩, (F.binds (ps := ["self"]) fun _ _ _ _ _ _ us hl => match us, hl with | [_], _ => rfl)⟩
  · rintro vs H Q E ⟨_, _, _, _, _, _, _, _, _, _, rfl, _⟩
    rfl
  · obtain ⟨O, p, dx, a1, a2, a3, a4, kvs, ws, d, rfl, D, k, e⟩ := h
    refine ⟨_, (pss_cons (ps_if (PW.pt (pw_and (pt_cmpR o_notN (pe_fldK rfl (pv 0)) pe_non (nomark _)) (pw_and1 (pt_cmpR op_ge (pe_fldK rfl (pv 0)) (pe_fldK rfl (pv 0)) (nomark _))))) (pss_one (ps_raise rfl (takes_of (E := E) rfl rfl rfl rfl) (pmk_X T.ex_PowerCut))) pss_nil)
      (pss_one (ps_fldaug (pv 0) pe_int in_add))), ?_⟩
    walk_at "cx"
    cases hm : d.most with
    | none =>
      have ho : H p = some (.ins c.Device dx (F_Device (.ref a1) (.ref a2) (.ref a3) (.ref a4) (.int d.done) .non)) := by have q := D.o; rw [hm] at q; exact q
      walk_at "rd"
      intro H1 p1 k1
      have q := D.mk' (n := d.done + 1) (m := d.most) k1 (by rw [hm]; exact p1)
      exact k (by unfold can; rw [hm]) H1 q k1
    | some m =>
      have ho : H p = some (.ins c.Device dx (F_Device (.ref a1) (.ref a2) (.ref a3) (.ref a4) (.int d.done) (.int m))) := by have q := D.o; rw [hm] at q; exact q
      walk_at "rd"
      refine ite_dec (fun z => ?_) fun z => ?_
      · refine e ?_
        unfold can; rw [hm]; exact decide_eq_false (by omega)
      · walk_at "rd"
        intro H1 p1 k1
        have q := D.mk' (n := d.done + 1) (m := d.most) k1 (by rw [hm]; exact p1)
        exact k (by unfold can; rw [hm]; exact decide_eq_true (by omega)) H1 q k1
/-- what a raising method of the device promises: op says what it leaves, and whether the power lasts -/
def spD (c : Cl) (H : Hp) (p : Addr) (O : Addr → Prop) (r : DevS × Bool) (Q : Hp → Prop) (E : XK) : Prop :=
  ∀ H' O', DevAt c H' p O' r.1 → Stp O O' H H' → if r.2 = true then Q H' else E (.ref c.PowerCut) none H'
theorem DevG.sub {p a1 a2 a4 : Addr} : ∀ b, F1 p b → DevG p a1 a2 a4 b := fun b z => .inl z
/-- no page is longer than a page -/
def Sz (l : List (Int × List Int)) : Prop := ∀ q ∈ l, q.2.length ≤ 256
theorem aput_sz {l : List (Int × List Int)} {n : Int} {ds : List Int} (h : Sz l) (hd : ds.length ≤ 256) : Sz (aput l n ds) := by
  intro q hq
  unfold aput at hq
  split at hq
  · obtain ⟨r, hr, rfl⟩ := List.mem_map.mp hq
    split
    · exact hd
    · exact h r hr
  · rcases List.mem_append.mp hq with hq | hq
    · exact h q hq
    · rw [List.mem_singleton.mp hq]; exact hd
theorem aget_sz {l : List (Int × List Int)} {n : Int} (h : Sz l) : ((aget l n).getD zeros).length ≤ 256 := by
  unfold aget
  cases e : l.find? fun q => decide (q.1 = n) with
  | none => show zeros.length ≤ 256; unfold zeros; rw [List.length_replicate]; exact Nat.le_refl _
  | some q => exact h q (List.mem_of_find?_eq_some e)
theorem puts_sz : ∀ {ws l : List (Int × List Int)}, Sz l → Sz ws → Sz (ws.foldl (fun l q => aput l q.1 q.2) l)
  | [], _, h, _ => h
  | q :: ws, l, h, hw => puts_sz (ws := ws) (aput_sz h (hw q (by simp))) fun r hr => hw r (List.mem_cons_of_mem _ hr)
theorem dFate_sz {l : List (Int × List Int)} {q : (Int × List Int) × Int} (h : Sz l) (hq : q.1.2.length ≤ 256) : Sz (dFate l q) := by
  unfold dFate
  split
  · exact aput_sz h hq
  · split
    · refine aput_sz h ?_
      have := aget_sz (n := q.1.1) h
      rw [List.length_append, List.length_take, List.length_drop]; omega
    · exact h
theorem dFates_sz : ∀ {ws : List ((Int × List Int) × Int)} {l : List (Int × List Int)}, Sz l → (∀ q ∈ ws, q.1.2.length ≤ 256) → Sz (ws.foldl dFate l)
  | [], _, h, _ => h
  | q :: ws, l, h, hw => dFates_sz (ws := ws) (dFate_sz h (hw q (by simp))) fun r hr => hw r (List.mem_cons_of_mem _ hr)
/-- what a device's state may hold at most -/
def Sml (d : DevS) : Prop := d.writes.length ≤ 1000000 ∧ d.pages.length + d.writes.length ≤ 2000000 ∧ d.log.length + d.steps.length ≤ 8000000 ∧ Sz d.pages ∧ Sz d.writes
theorem F1.g {p a1 a2 a4 : Addr} {H : Hp} : ∀ b, F1 p b → DevG p a1 a2 a4 b ∨ H b = none := fun b z => .inl (.inl z)
theorem spD.yes {H : Hp} {p : Addr} {O : Addr → Prop} {d : DevS} {fn : DevS → DevS} {Q : Hp → Prop} {E : XK} (k : spD c H p O (pw d fn) Q E) (hc : can d = true) {H' : Hp} {O' : Addr → Prop} (D : DevAt c H' p O' (fn { d with done := d.done + 1 })) (s : Stp O O' H H') : Q H' := by
  unfold spD pw at k
  rw [if_pos hc] at k
  have q := k H' O' D s
  rw [if_pos rfl] at q
  exact q
theorem spD.no {H : Hp} {p : Addr} {O : Addr → Prop} {d : DevS} {fn : DevS → DevS} {Q : Hp → Prop} {E : XK} (k : spD c H p O (pw d fn) Q E) (hc : can d = false) (D : DevAt c H p O d) : E (.ref c.PowerCut) none H := by
  unfold spD pw at k
  rw [if_neg (by rw [hc]; exact Bool.false_ne_true)] at k
  have q := k H O D (Stp.refl _ _)
  rw [if_neg (by exact Bool.false_ne_true)] at q
  exact q
/-- a fresh object is none of the footprint -/
theorem DevA.fresh {O : Addr → Prop} {H : Hp} {p dx a1 a2 a3 a4 b : Addr} {kvs : List (Key × V)} {ws : List V} {d : DevS} (D : DevA c O H p dx a1 a2 a3 a4 kvs ws d) (hb : H b = none) : ¬ DevG p a1 a2 a4 b := by
  rintro (z | z | z | z)
  · exact ne_of_none D.o hb z.symm
  · exact ne_of_none D.pg hb z.symm
  · exact ne_of_none D.wr hb z.symm
  · exact ne_of_none D.st hb z.symm
theorem DevA.trk {O : Addr → Prop} {H : Hp} {p dx a1 a2 a3 a4 b : Addr} {kvs : List (Key × V)} {ws : List V} {d : DevS} (D : DevA c O H p dx a1 a2 a3 a4 kvs ws d) (g : DevG p a1 a2 a4 b) : ∃ o, H b = some o := by
  rcases g with rfl | rfl | rfl | rfl
  · exact ⟨_, D.o⟩
  · exact ⟨_, D.pg⟩
  · exact ⟨_, D.wr⟩
  · exact ⟨_, D.st⟩
def sp_Device_write_page (c : Cl) (K : PySem.W.Frag) : Sp := fun vs H Q E => ∃ p O d n l ds, vs = [.ref p, .int n, .ref l] ∧ DevAt c H p O d ∧ SqL K H l (ds.map V.int) ∧ ¬ O l ∧ Sml d ∧ spD c H p O (dWrite n ds d) (Q .non) E
theorem ok_Device_write_page (T : Txt K mg c) : GM P w K mg base (L2.CX P w) 2 c.Device "write_page" (sp_Device_write_page c K) := by
  obtain ⟨f, fd, F, gf, gi⟩ := T.f_Device_write_page
  have tc_Device := T.cl_Device; have tn_Device_pages := T.n_Device_pages; have tn_Device_page_writes := T.n_Device_page_writes; have tn_Device_durable_log := T.n_Device_durable_log; have tn_Device_log_steps := T.n_Device_log_steps; have tn_Device_done := T.n_Device_done; have tn_Device_most := T.n_Device_most
  refine ⟨f, fd, ["self", "number", "data"], F.okX sc_Device_write_page ?_ (fun cdv A outer s H vs Q E hr h => ?_), ⟨gf, gi, F.kp⟩, (F.binds (ps := ["self", "number", "data"]) fun _ _ _ _ _ _ us hl => match us, hl with | [_, _, _], _ => rfl)⟩
  · rintro vs H Q E ⟨_, _, _, _, _, _, rfl, _⟩
    rfl
  · obtain ⟨p, O0, d, n, l, ds, rfl, hD, hl, nl, sm, k⟩ := h
    obtain ⟨O, dx, a1, a2, a3, a4, kvs, ws, eO, D, og⟩ := hD.opn
    have fr : ∀ {x}, H x = none → O x := fun h => by rw [eO]; exact .inr h
    have ho := D.o
    refine ⟨_, (pss_cons (ps_expr (pe_gm0 T.cl_Device (ok_Device_step T) (pv 0) (hr.mono (by decide)) (passE (E := E) rfl rfl rfl rfl)))
      (pss_one (ps_expr (pe_kBM rfl (pe_bm PySem.F.plainAttrs_list PySem.F.slot_list_append PySem.F.type_list_append mt_append (pe_fldK rfl (pv 0)) (pa_cons (pe_tup (pa_cons (pv 1) (pa_cons (pe_callTy (r := rLstQ K) c_list (by rfl) T.z_list (by decide +kernel) (pa_cons (pv 2) pa_nil)) pa_nil))) pa_nil)))))), ?_⟩
    walk_at "cx"
    walk_at "rd"
    refine ⟨O, p, dx, a1, a2, a3, a4, kvs, ws, d, rfl, D, fun hc H1 D1 k1 => ?_, fun hc => k.no hc hD⟩
    have ho1 := D1.o
    have hw1 := D1.wr
    walk_at "rd"
    refine x_lstL (k1.sqL hl fun z => nl (og _ (.inl z))) fun b H2 hb k2 hb2 => ?_
    walk_at "rd"
    refine x_newT fun t H3 ht k3 ht3 => ?_
    walk_at "rd"
    have D3 := (D1.same k2).same k3
    have lw : ws.length = d.writes.length := D.wp.length
    refine x_app D3.wr (by have := sm.1; omega) fun H4 hw4 k4 => ?_
    have nb := D1.fresh hb
    have sub : ∀ x, F1 a2 x → DevG p a1 a2 a4 x := fun x z => .inr (.inr (.inl z))
    have D4 : DevA c O H4 p dx a1 a2 a3 a4 kvs (ws ++ [.ref t]) { d with writes := d.writes ++ [(n, ds)], done := d.done + 1 } :=
      ⟨k4.get D3.o D3.np2, k4.get D3.pg D3.n12, Paired.mono (fun _ _ r => r.kp k4 sub) D3.pr, hw4, (Paired.mono (fun _ _ r => r.kp k4 sub) D3.wp).snoc ⟨t, b, rfl, k4.tup ht3, k4.get (k3.get hb2 id) fun z => nb (sub b z), fr (k1.free hb fun z => nb (.inl z)), nb⟩, D3.lg.kp k4 sub, k4.get D3.st D3.ne.symm, D3.ne, D3.ow⟩
    exact k.yes hc (D4.clo eO) (Stp.nO (G := DevG p a1 a2 a4) (((k1.mono F1.g).trans k2 fun _ z => z.elim).trans k3 (fun _ z => z.elim) |>.trans k4 fun b z => .inl (.inr (.inr (.inl z)))) og)
theorem any_pr {R : Key × V → Int × List Int → Prop} (hR : ∀ p q, R p q → p.1 = .inl q.1) (n : Int) : ∀ {kvs : List (Key × V)} {l : List (Int × List Int)}, Paired R kvs l → (kvs.any fun kv => decide (kv.1 = .inl n)) = l.any fun q => decide (q.1 = n)
  | _, _, .nil => rfl
  | _, _, .cons (a := p) (b := q) h t => by
    rw [List.any_cons, List.any_cons, any_pr hR n t, hR p q h]
    congr 1
    exact decide_eq_decide.mpr ⟨fun e => Sum.inl.inj e, fun e => by rw [e]⟩
theorem map_pr {R : Key × V → Int × List Int → Prop} (hR : ∀ p q, R p q → p.1 = .inl q.1) {n : Int} {v : V} {ds : List Int} (h : R (.inl n, v) (n, ds)) : ∀ {kvs : List (Key × V)} {l : List (Int × List Int)}, Paired R kvs l →
    Paired R (kvs.map fun kv => if kv.1 = .inl n then (kv.1, v) else kv) (l.map fun q => if q.1 = n then (q.1, ds) else q)
  | _, _, .nil => .nil
  | _, _, .cons (a := p) (b := q) r t => by
    refine .cons ?_ (map_pr hR h t)
    have e := hR p q r
    show R (if p.1 = .inl n then (p.1, v) else p) (if q.1 = n then (q.1, ds) else q)
    by_cases z : q.1 = n
    · rw [if_pos (by rw [e, z]), if_pos z, e, z]; exact h
    · rw [if_neg (by rw [e]; exact fun w => z (Sum.inl.inj w)), if_neg z]; exact r
theorem put_pr {R : Key × V → Int × List Int → Prop} (hR : ∀ p q, R p q → p.1 = .inl q.1) {n : Int} {v : V} {ds : List Int} (h : R (.inl n, v) (n, ds)) {kvs : List (Key × V)} {l : List (Int × List Int)} (t : Paired R kvs l) : Paired R (putK kvs (.inl n) v) (aput l n ds) := by
  unfold putK aput
  rw [any_pr hR n t]
  split
  · exact map_pr hR h t
  · exact t.snoc h
theorem get_pr {R : Key × V → Int × List Int → Prop} (hR : ∀ p q, R p q → p.1 = .inl q.1) (n : Int) : ∀ {kvs : List (Key × V)} {l : List (Int × List Int)}, Paired R kvs l →
    (valV kvs (.inl n) = none ∧ aget l n = none) ∨ ∃ v ds, valV kvs (.inl n) = some v ∧ aget l n = some ds ∧ R (.inl n, v) (n, ds)
  | _, _, .nil => .inl ⟨rfl, rfl⟩
  | _, _, .cons (a := p) (b := q) (l₁ := kvs) (l₂ := l) r t => by
    have e := hR p q r
    by_cases z : q.1 = n
    · refine .inr ⟨p.2, q.2, valV_pos (by rw [e, z]), ?_, ?_⟩
      · unfold aget
        rw [List.find?_cons_of_pos (by exact decide_eq_true z)]; rfl
      · have : p = (.inl n, p.2) := by rw [← z, ← e]
        have e2 : q = (n, q.2) := by rw [← z]
        rw [← this, ← e2]; exact r
    · have h1 : valV (p :: kvs) (.inl n) = valV kvs (.inl n) := valV_neg (by rw [e]; exact fun w => z (Sum.inl.inj w))
      have h2 : aget (q :: l) n = aget l n := by
        unfold aget
        rw [List.find?_cons_of_neg (by simpa using z)]
      rw [h1, h2]
      exact get_pr hR n t
theorem RPg.key {H : Hp} {O G : Addr → Prop} : ∀ p q, RPg H O G p q → p.1 = .inl q.1 := fun _ _ h => h.1
theorem aput_len (l : List (Int × List Int)) (n : Int) (v : List Int) : (aput l n v).length ≤ l.length + 1 := by
  unfold aput; split
  · rw [List.length_map]; omega
  · rw [List.length_append]; exact Nat.le_refl _
theorem puts_len : ∀ (l : List (Int × List Int)) (pages : List (Int × List Int)), (l.foldl (fun l q => aput l q.1 q.2) pages).length ≤ pages.length + l.length
  | [], _ => Nat.le_refl _
  | q :: l, pages => by
    have h1 := puts_len l (aput pages q.1 q.2)
    have h2 := aput_len pages q.1 q.2
    show (l.foldl (fun l q => aput l q.1 q.2) (aput pages q.1 q.2)).length ≤ pages.length + (l.length + 1)
    omega
theorem pget {α β : Type} {R : α → β → Prop} : ∀ {l : List α} {m : List β} {i : Nat} {x : α}, Paired R l m → l[i]? = some x → ∃ y, m[i]? = some y ∧ R x y
  | _, _, 0, _, .cons h _, e => by cases (Option.some.inj e); exact ⟨_, rfl, h⟩
  | _, _, i + 1, _, .cons _ t, e => pget (i := i) t e
  | _, _, _, _, .nil, e => by simp at e
def sp_Device_sync_pages (c : Cl) : Sp := fun vs H Q E => ∃ p O d, vs = [.ref p] ∧ DevAt c H p O d ∧ Sml d ∧ spD c H p O (dSyncP d) (Q .non) E
theorem ok_Device_sync_pages (T : Txt K mg c) : GM P w K mg base (L2.CX P w) 2 c.Device "sync_pages" (sp_Device_sync_pages c) := by
  obtain ⟨f, fd, F, gf, gi⟩ := T.f_Device_sync_pages
  have tc_Device := T.cl_Device; have tn_Device_pages := T.n_Device_pages; have tn_Device_page_writes := T.n_Device_page_writes; have tn_Device_durable_log := T.n_Device_durable_log; have tn_Device_log_steps := T.n_Device_log_steps; have tn_Device_done := T.n_Device_done; have tn_Device_most := T.n_Device_most
  refine ⟨f, fd, ["self"], F.okX sc_Device_sync_pages ?_ (fun cdv A outer s H vs Q E hr h => ?_), ⟨gf, gi, F.kp⟩, (F.binds (ps := ["self"]) fun _ _ _ _ _ _ us hl => match us, hl with | [_], _ => rfl)⟩
  · rintro vs H Q E ⟨_, _, _, rfl, _⟩
    rfl
  · obtain ⟨p, O0, d, rfl, hD, sm, k⟩ := h
    obtain ⟨O, dx, a1, a2, a3, a4, kvs, ws, eO, D, og⟩ := hD.opn
    have fr : ∀ {x}, H x = none → O x := fun h => by rw [eO]; exact .inr h
    have ho := D.o
    refine ⟨_, (pss_cons (ps_expr (pe_gm0 T.cl_Device (ok_Device_step T) (pv 0) (hr.mono (by decide)) (passE (E := E) rfl rfl rfl rfl)))
      (pss_cons (ps_for (passes_of rfl) rfl (pi_listK rfl (pe_fldK rfl (pv 0))) (pg_kT rfl (pg_tup (n := 2) rfl (pgs_cons (pg_name (i := 1) sc_Device_sync_pages.nd rfl (Or.inl rfl)) (pgs_cons (pg_name (i := 2) sc_Device_sync_pages.nd rfl (Or.inl rfl)) pgs_nil)))) (pss_one (ps_dput (hu_of hr) (pe_fldK rfl (pv 0)) (pv 1) (pv 2) rfl)))
      (pss_one (ps_fld (pv 0) (pe_lst pa_nil) rfl)))), ?_⟩
    walk_at "cx"
    walk_at "rd"
    refine ⟨O, p, dx, a1, a2, a3, a4, kvs, ws, d, rfl, D, fun hc H1 D1 k1 => ?_, fun hc => k.no hc hD⟩
    have ho1 := D1.o
    have hw1 := D1.wr
    walk_at "rd"
    refine wfor Wk.list (fun i σ H' => ∃ kvs' u v, σ = [some (.ref p), u, v] ∧ DevA c O H' p dx a1 a2 a3 a4 kvs' ws { d with pages := (d.writes.take i).foldl (fun l q => aput l q.1 q.2) d.pages, done := d.done + 1 } ∧ Kp (DevG p a1 a2 a4) H H')
      ⟨kvs, none, none, rfl, D1, k1.mono F1.g⟩ (fun i σ H' ⟨_, _, _, _, D', _⟩ => SqL.of D'.wr) ?_ ?_
    · rintro i x σ H2 ex ⟨kvs', u, v, rfl, D2, kk⟩
      obtain ⟨q, eq, t, a, rfl, ht, hi⟩ := pget D2.wp ex
      have ho2 := D2.o
      have hp2 := D2.pg
      have eq' : d.writes[i]? = some q := eq
      have hl : kvs'.length = ((d.writes.take i).foldl (fun l q => aput l q.1 q.2) d.pages).length := D2.pr.length
      have hl2 := puts_len (d.writes.take i) d.pages
      have hl3 : (d.writes.take i).length ≤ d.writes.length := by rw [List.length_take]; omega
      walk_at "rd"
      refine x_dpI hp2 (by have := sm.1; have := sm.2.1; omega) fun H3 hp3 k3 => ?_
      have sub : ∀ x, F1 a1 x → DevG p a1 a2 a4 x := fun x z => .inr (.inl z)
      refine ⟨putK kvs' (.inl q.1) (.ref a), _, _, rfl, ?_, kk.trans k3 fun x z => .inl (sub x z)⟩
      have e : (d.writes.take (i + 1)).foldl (fun l q => aput l q.1 q.2) d.pages = aput ((d.writes.take i).foldl (fun l q => aput l q.1 q.2) d.pages) q.1 q.2 := by
        rw [List.take_succ, eq', List.foldl_append]; rfl
      rw [e]
      exact ⟨k3.get D2.o D2.np1, hp3, put_pr RPg.key ⟨rfl, a, rfl, hi.kp k3 sub⟩ (Paired.mono (fun _ _ r => r.kp k3 sub) D2.pr), k3.get D2.wr D2.n12.symm, Paired.mono (fun _ _ r => r.kp k3 sub) D2.wp, D2.lg.kp k3 sub, k3.get D2.st D2.n14.symm, D2.ne, D2.ow⟩
    · rintro σ H2 ⟨kvs', u, v, rfl, D2, kk⟩
      have lw : ws.length = d.writes.length := D.wp.length
      rw [lw, List.take_length] at D2
      have ho2 := D2.o
      walk_at "rd"
      refine x_newL fun b H3 hb k3 hb3 => ?_
      have D3 := D2.same k3
      have ho3 := D3.o
      walk_at "rd"
      intro H4 p4 k4
      have nb := D2.fresh hb
      have nbp : b ≠ p := fun z => nb (.inl z)
      have nb1 : b ≠ a1 := fun z => nb (.inr (.inl z))
      have nb4 : b ≠ a4 := fun z => nb (.inr (.inr (.inr z)))
      have k24 : Kp (DevG p a1 a2 a4) H2 H4 := (k3.mono fun _ z => z.elim).trans k4 fun x z => .inl (.inl z)
      have im : ∀ a ds, Im H2 O (DevG p a1 a2 a4) a ds → Im H4 O (DevG p a1 b a4) a ds := fun a ds i => ⟨k24.get i.1 i.2.2, i.2.1, by
        rintro (z | z | z | z)
        · exact i.2.2 (.inl z)
        · exact i.2.2 (.inr (.inl z))
        · exact ne_of_none i.1 hb z
        · exact i.2.2 (.inr (.inr (.inr z)))⟩
      have D4 : DevA c O H4 p dx a1 b a3 a4 kvs' [] { d with pages := d.writes.foldl (fun l q => aput l q.1 q.2) d.pages, writes := [], done := d.done + 1 } :=
        ⟨p4, k4.get D3.pg D3.np1.symm, Paired.mono (fun _ _ r => r.im im) D2.pr, k4.get hb3 nbp, .nil, im _ _ D2.lg, k4.get D3.st D3.np4.symm, nb4, by
          rintro x (z | z | z | z)
          · exact D.ow _ (.inl z)
          · exact D.ow _ (.inr (.inl z))
          · rw [z]; exact fr (kk.free hb nb)
          · exact D.ow _ (.inr (.inr (.inr z)))⟩
      exact k.yes hc (D4.clo eO) (Stp.nO (G := DevG p a1 a2 a4) (kk.trans k24 fun _ z => .inl z) og)
/-- one more step of the log -/
theorem DevA.byte {O : Addr → Prop} {H H' : Hp} {p dx a1 a2 a3 a4 : Addr} {kvs : List (Key × V)} {ws : List V} {d : DevS} {b : Option Int} (D : DevA c O H p dx a1 a2 a3 a4 kvs ws d) (k4 : Kp (F1 a4) H H') (h : H' a4 = some (.lst (d.steps.map oV ++ [oV b]))) : DevA c O H' p dx a1 a2 a3 a4 kvs ws { d with steps := d.steps ++ [b] } := by
  have sub : ∀ x, F1 a4 x → DevG p a1 a2 a4 x := fun x z => .inr (.inr (.inr z))
  exact ⟨k4.get D.o D.np4, k4.get D.pg D.n14, Paired.mono (fun _ _ r => r.kp k4 sub) D.pr, k4.get D.wr D.ne, Paired.mono (fun _ _ r => r.kp k4 sub) D.wp, D.lg.kp k4 sub, by rw [h]; simp, D.ne, D.ow⟩
def sp_Device_append (c : Cl) (K : PySem.W.Frag) : Sp := fun vs H Q E => ∃ p O d l bs, vs = [.ref p, .ref l] ∧ DevAt c H p O d ∧ SqL K H l (bs.map V.int) ∧ ¬ O l ∧ Sml d ∧ bs.length ≤ 8000000 ∧ spD c H p O (dApp bs d) (Q .non) E
theorem dApp_app : ∀ (bs : List Int) (d : DevS) (b : Int), (dApp bs d).2 = true → dApp (bs ++ [b]) d = dByte (some b) (dApp bs d).1
  | [], d, b, _ => by
    show (if (dByte (some b) d).2 = true then ((dByte (some b) d).1, true) else (d, false)) = dByte (some b) d
    unfold dByte pw
    by_cases h : can d = true
    · rw [if_pos h, if_pos rfl]
    · rw [if_neg h, if_neg Bool.false_ne_true]
  | x :: bs, d, b, h => by
    show (if (dByte (some x) d).2 = true then dApp (bs ++ [b]) (dByte (some x) d).1 else (d, false)) = _
    by_cases q : (dByte (some x) d).2 = true
    · have e : dApp (x :: bs) d = dApp bs (dByte (some x) d).1 := by show (if _ then _ else _) = _; rw [if_pos q]
      rw [if_pos q, e]
      rw [e] at h
      exact dApp_app bs _ b h
    · have e : dApp (x :: bs) d = (d, false) := by show (if _ then _ else _) = _; rw [if_neg q]
      rw [e] at h
      cases h
theorem dApp_stop : ∀ (bs cs : List Int) (d : DevS) (b : Int), (dApp bs d).2 = true → can (dApp bs d).1 = false → dApp (bs ++ b :: cs) d = ((dApp bs d).1, false)
  | [], cs, d, b, _, h => by
    show (if (dByte (some b) d).2 = true then _ else (d, false)) = (d, false)
    have : (dByte (some b) d).2 = false := by unfold dByte pw; rw [if_neg (by rw [show can d = false from h]; exact Bool.false_ne_true)]
    rw [this]; rfl
  | x :: bs, cs, d, b, h, g => by
    show (if (dByte (some x) d).2 = true then dApp (bs ++ b :: cs) (dByte (some x) d).1 else (d, false)) = _
    by_cases q : (dByte (some x) d).2 = true
    · have e : dApp (x :: bs) d = dApp bs (dByte (some x) d).1 := by show (if _ then _ else _) = _; rw [if_pos q]
      rw [if_pos q, e]
      rw [e] at h g
      exact dApp_stop bs cs _ b h g
    · have e : dApp (x :: bs) d = (d, false) := by show (if _ then _ else _) = _; rw [if_neg q]
      rw [e] at h
      cases h
theorem dByte_steps (b : Option Int) (d : DevS) : (dByte b d).1.steps.length ≤ d.steps.length + 1 := by
  unfold dByte pw; split
  · show (d.steps ++ [b]).length ≤ _; rw [List.length_append]; exact Nat.le_refl _
  · exact Nat.le_succ _
theorem dApp_steps : ∀ (bs : List Int) (d : DevS), (dApp bs d).1.steps.length ≤ d.steps.length + bs.length
  | [], _ => Nat.le_refl _
  | x :: bs, d => by
    show (if (dByte (some x) d).2 = true then dApp bs (dByte (some x) d).1 else (d, false)).1.steps.length ≤ d.steps.length + (bs.length + 1)
    have h1 := dApp_steps bs (dByte (some x) d).1
    have h2 := dByte_steps (some x) d
    split
    · omega
    · show d.steps.length ≤ _; omega
theorem ok_Device_append (T : Txt K mg c) : GM P w K mg base (L2.CX P w) 2 c.Device "append" (sp_Device_append c K) := by
  obtain ⟨f, fd, F, gf, gi⟩ := T.f_Device_append
  have tc_Device := T.cl_Device; have tn_Device_pages := T.n_Device_pages; have tn_Device_page_writes := T.n_Device_page_writes; have tn_Device_durable_log := T.n_Device_durable_log; have tn_Device_log_steps := T.n_Device_log_steps; have tn_Device_done := T.n_Device_done; have tn_Device_most := T.n_Device_most
  refine ⟨f, fd, ["self", "data"], F.okX sc_Device_append ?_ (fun cdv A outer s H vs Q E hr h => ?_), ⟨gf, gi, F.kp⟩, (F.binds (ps := ["self", "data"]) fun _ _ _ _ _ _ us hl => match us, hl with | [_, _], _ => rfl)⟩
  · rintro vs H Q E ⟨_, _, _, _, _, rfl, _⟩
    rfl
  · obtain ⟨p, O0, d, l, bs, rfl, hD, hl, nl, sm, hz, k⟩ := h
    obtain ⟨O, dx, a1, a2, a3, a4, kvs, ws, eO, D, og⟩ := hD.opn
    have fr : ∀ {x}, H x = none → O x := fun h => by rw [eO]; exact .inr h
    have ho := D.o
    refine ⟨_, (pss_one (ps_for (passes_of rfl) rfl (pi_listK rfl (pv 1)) (pg_name (i := 2) sc_Device_append.nd rfl (Or.inl rfl)) (pss_cons (ps_expr (pe_gm0 T.cl_Device (ok_Device_step T) (pv 0) (hr.mono (by decide)) (passE (E := E) rfl rfl rfl rfl)))
      (pss_one (ps_expr (pe_kBM rfl (pe_bm PySem.F.plainAttrs_list PySem.F.slot_list_append PySem.F.type_list_append mt_append (pe_fldK rfl (pv 0)) (pa_cons (pv 2) pa_nil)))))))), ?_⟩
    walk_at "cx"
    walk_at "rd"
    refine wfor Wk.list (fun i σ H' => ∃ u, σ = [some (.ref p), some (.ref l), u] ∧ (dApp (bs.take i) d).2 = true ∧ DevA c O H' p dx a1 a2 a3 a4 kvs ws (dApp (bs.take i) d).1 ∧ Kp (DevG p a1 a2 a4) H H')
      ⟨none, rfl, rfl, D, Kp.refl _⟩ (fun i σ H' ⟨_, _, _, _, kk⟩ => kk.sqL hl fun z => nl (og _ z)) ?_ ?_
    · rintro i x σ H2 ex ⟨u, rfl, hb, D2, kk⟩
      have eb : ∃ b, bs[i]? = some b ∧ x = .int b := by
        rw [List.getElem?_map] at ex
        cases q : bs[i]? with
        | none => rw [q] at ex; cases ex
        | some z => rw [q] at ex; exact ⟨z, rfl, (Option.some.inj ex).symm⟩
      obtain ⟨b, eb, rfl⟩ := eb
      have ho2 := D2.o
      have tk : bs.take (i + 1) = bs.take i ++ [b] := by rw [List.take_succ, eb]; rfl
      walk_at "rd"
      refine ⟨O, p, dx, a1, a2, a3, a4, kvs, ws, _, rfl, D2, fun hc H3 D3 k3 => ?_, fun hc => ?_⟩
      · have ho3 := D3.o
        have hs3 := D3.st
        walk_at "rd"
        refine x_app hs3 (by
          have h1 := dApp_steps (bs.take i) d
          have h2 : (bs.take i).length ≤ bs.length := by rw [List.length_take]; omega
          have h3 := sm.2.2.1
          rw [List.length_map]
          show (dApp (bs.take i) d).1.steps.length < 16777216
          omega) fun H4 h4 k4 => ?_
        have e := dApp_app (bs.take i) d b hb
        rw [tk, e]
        have D4 := D3.byte (b := some b) k4 h4
        refine ⟨_, rfl, ?_, ?_, (kk.trans (k3.mono F1.g) fun x z => .inl z).trans k4 fun x z => .inl (.inr (.inr (.inr z)))⟩
        · unfold dByte pw; rw [if_pos hc]
        · unfold dByte pw; rw [if_pos hc]; exact D4
      · have e : dApp bs d = ((dApp (bs.take i) d).1, false) := by
          have q := dApp_stop (bs.take i) (bs.drop (i + 1)) d b hb hc
          have hi : i < bs.length := (List.getElem?_eq_some_iff.mp eb).1
          have hbi : bs[i] = b := (List.getElem?_eq_some_iff.mp eb).2
          rw [← hbi, ← List.drop_eq_getElem_cons hi, List.take_append_drop] at q
          exact q
        have q := k H2 _ (by rw [e]; exact D2.clo eO) (Stp.nO kk og)
        rw [e, if_neg (by exact Bool.false_ne_true)] at q
        exact q
    · rintro σ H2 ⟨u, rfl, hb, D2, kk⟩
      rw [List.length_map, List.take_length] at hb D2
      have q := k H2 _ (D2.clo eO) (Stp.nO kk og)
      rw [if_pos hb] at q
      exact q
def sp_Device_clear (c : Cl) : Sp := fun vs H Q E => ∃ p O d, vs = [.ref p] ∧ DevAt c H p O d ∧ Sml d ∧ spD c H p O (dByte none d) (Q .non) E
theorem ok_Device_clear (T : Txt K mg c) : GM P w K mg base (L2.CX P w) 2 c.Device "clear" (sp_Device_clear c) := by
  obtain ⟨f, fd, F, gf, gi⟩ := T.f_Device_clear
  have tc_Device := T.cl_Device; have tn_Device_pages := T.n_Device_pages; have tn_Device_page_writes := T.n_Device_page_writes; have tn_Device_durable_log := T.n_Device_durable_log; have tn_Device_log_steps := T.n_Device_log_steps; have tn_Device_done := T.n_Device_done; have tn_Device_most := T.n_Device_most
  refine ⟨f, fd, ["self"], F.okX sc_Device_clear ?_ (fun cdv A outer s H vs Q E hr h => ?_), ⟨gf, gi, F.kp⟩, (F.binds (ps := ["self"]) fun _ _ _ _ _ _ us hl => match us, hl with | [_], _ => rfl)⟩
  · rintro vs H Q E ⟨_, _, _, rfl, _⟩
    rfl
  · obtain ⟨p, O0, d, rfl, hD, sm, k⟩ := h
    obtain ⟨O, dx, a1, a2, a3, a4, kvs, ws, eO, D, og⟩ := hD.opn
    have fr : ∀ {x}, H x = none → O x := fun h => by rw [eO]; exact .inr h
    have ho := D.o
    refine ⟨_, (pss_cons (ps_expr (pe_gm0 T.cl_Device (ok_Device_step T) (pv 0) (hr.mono (by decide)) (passE (E := E) rfl rfl rfl rfl)))
      (pss_one (ps_expr (pe_kBM rfl (pe_bm PySem.F.plainAttrs_list PySem.F.slot_list_append PySem.F.type_list_append mt_append (pe_fldK rfl (pv 0)) (pa_cons pe_non pa_nil)))))), ?_⟩
    walk_at "cx"
    walk_at "rd"
    refine ⟨O, p, dx, a1, a2, a3, a4, kvs, ws, d, rfl, D, fun hc H1 D1 k1 => ?_, fun hc => k.no hc hD⟩
    have ho1 := D1.o
    have hs1 := D1.st
    walk_at "rd"
    refine x_app hs1 (by rw [List.length_map]; have := sm.2.2.1; show d.steps.length < _; omega) fun H4 h4 k4 => ?_
    exact k.yes hc ((D1.byte (b := none) k4 h4).clo eO) (Stp.nO (G := DevG p a1 a2 a4) ((k1.mono F1.g).trans k4 fun x z => .inl (.inr (.inr (.inr z)))) og)
def sp_Device_log (c : Cl) : Sp := fun vs H Q _ => ∃ p O d, vs = [.ref p] ∧ DevAt c H p O d ∧ Sml d ∧ ∀ b H', H b = none → Kp F0 H H' → H' b = some (.lst ((clog d).map V.int)) → Q (.ref b) H'
theorem lstep_len (l : List Int) (o : Option Int) : (lstep l o).length ≤ l.length + 1 := by
  cases o with
  | none => exact Nat.zero_le _
  | some b => show (l ++ [b]).length ≤ _; rw [List.length_append]; exact Nat.le_refl _
theorem lsteps_len : ∀ (os : List (Option Int)) (l : List Int), (os.foldl lstep l).length ≤ l.length + os.length
  | [], _ => Nat.le_refl _
  | o :: os, l => by
    have h1 := lsteps_len os (lstep l o)
    have h2 := lstep_len l o
    show (os.foldl lstep (lstep l o)).length ≤ l.length + (os.length + 1)
    omega
--HOT Device.log
theorem ok_Device_log (T : Txt K mg c) : GM P w K mg base CX0 1 c.Device "log" (sp_Device_log c) := by
  obtain ⟨f, fd, F, gf, gi⟩ := T.f_Device_log
  have tc_Device := T.cl_Device; have tn_Device_pages := T.n_Device_pages; have tn_Device_page_writes := T.n_Device_page_writes; have tn_Device_durable_log := T.n_Device_durable_log; have tn_Device_log_steps := T.n_Device_log_steps; have tn_Device_done := T.n_Device_done; have tn_Device_most := T.n_Device_most
  refine ⟨f, fd, ["self"], F.ok sc_Device_log ?_ (fun cdv A outer s H vs Q E hr h => ?_), ⟨gf, gi, F.kp⟩, (F.binds (ps := ["self"]) fun _ _ _ _ _ _ us hl => match us, hl with | [_], _ => rfl)⟩
  · rintro vs H Q E ⟨_, _, _, rfl, _⟩
    rfl
  · obtain ⟨p, O0, d, rfl, hD, sm, k⟩ := h
    obtain ⟨O, dx, a1, a2, a3, a4, kvs, ws, eO, D, og⟩ := hD.opn
    have fr : ∀ {x}, H x = none → O x := fun h => by rw [eO]; exact .inr h
    have ho := D.o
    have hs := D.st
    refine ⟨_, (pss_cons (ps_set (i := 1) sc_Device_log.nd rfl (Or.inl rfl) (pe_callTy (r := rLstQ K) c_list (by rfl) T.z_list (by decide +kernel) (pa_cons (pe_fldK rfl (pv 0)) pa_nil)))
      (pss_cons (ps_for PassesOwn.never rfl (pi_listK rfl (pe_fldK rfl (pv 0))) (pg_name (i := 2) sc_Device_log.nd rfl (Or.inl rfl)) (pss_one (ps_if (pt_cmpR o_isN (pv 2) pe_non (nomark _)) (pss_one (ps_set (i := 1) sc_Device_log.nd rfl (Or.inl rfl) (pe_lst pa_nil))) (pss_one (ps_expr (pe_kBM rfl (pe_bm PySem.F.plainAttrs_list PySem.F.slot_list_append PySem.F.type_list_append mt_append (pv 1) (pa_cons (pv 2) pa_nil))))))))
      (pss_one (ps_ret (pv 1))))), ?_⟩
    walk_at "cx"
    walk_at "rd"
    refine x_lstL (SqL.of D.lg.1) fun b H1 hb k1 hb1 => ?_
    have ho1 := k1.get ho id
    have hs1 := k1.get hs id
    walk_at "rd"
    refine wfor Wk.list (fun i σ H' => ∃ b u, σ = [some (.ref p), some (.ref b), u] ∧ H' b = some (.lst (((d.steps.take i).foldl lstep d.log).map V.int)) ∧ H b = none ∧ Kp F0 H H')
      ⟨b, none, rfl, hb1, hb, k1⟩ (fun i σ H' ⟨_, _, _, _, _, kk⟩ => SqL.of (kk.get hs id)) ?_ ?_
    · rintro i x σ H2 ex ⟨b, u, rfl, hb2, hb0, kk⟩
      have e : ∃ o, d.steps[i]? = some o ∧ x = oV o := by
        rw [List.getElem?_map] at ex
        cases q : d.steps[i]? with
        | none => rw [q] at ex; cases ex
        | some z => rw [q] at ex; exact ⟨z, rfl, (Option.some.inj ex).symm⟩
      obtain ⟨o, eo, rfl⟩ := e
      have tk : (d.steps.take (i + 1)).foldl lstep d.log = lstep ((d.steps.take i).foldl lstep d.log) o := by rw [List.take_succ, eo, List.foldl_append]; rfl
      have ll := lsteps_len (d.steps.take i) d.log
      have l2 : (d.steps.take i).length ≤ d.steps.length := by rw [List.length_take]; omega
      have := sm.2.2.1
      cases o with
      | none =>
        walk_at "rd"
        show rIsNQ .non .non _ _
        walk_at "rd"
        refine x_newL fun b' H3 hb' k3 hb3 => ?_
        exact ⟨b', some .non, rfl, by rw [tk]; exact hb3, kk.free hb' id, kk.trans k3 fun _ z => z.elim⟩
      | some y =>
        walk_at "rd"
        show rIsNQ (.int y) .non _ _
        walk_at "rd"
        show rAppend (.ref b) [.int y] _ _
        refine x_app hb2 (by rw [List.length_map]; omega) fun H3 hb3 k3 => ?_
        exact ⟨b, some (.int y), rfl, by rw [tk, hb3]; show _ = some (HO.lst (((d.steps.take i).foldl lstep d.log ++ [y]).map V.int)); rw [List.map_append]; rfl, hb0, kk.trans k3 fun x z => .inr (by rw [z]; exact hb0)⟩
    · rintro σ H2 ⟨b, u, rfl, hb2, hb0, kk⟩
      rw [List.length_map, List.take_length] at hb2
      walk_at "rd"
      exact k b H2 hb0 kk hb2
--TOH
/-- a new list of steps, a new log -/
theorem DevA.newL {O : Addr → Prop} {H1 H' : Hp} {p dx a1 a2 a3 a4 b3 b4 : Addr} {kvs : List (Key × V)} {ws : List V} {d : DevS} {lg : List Int} {sl : List (Option Int)} {n : Int} {mo : Option Int} (D : DevA c O H1 p dx a1 a2 a3 a4 kvs ws d)
    (h4 : H1 b4 = none) (k : Kp (F1 p) H1 H') (o : H' p = some (.ins c.Device dx (F_Device (.ref a1) (.ref a2) (.ref b3) (.ref b4) (.int n) (oV mo)))) (e3 : H' b3 = some (.lst (lg.map V.int))) (e4 : H' b4 = some (.lst (sl.map oV))) (n3 : ¬ DevG p a1 a2 b4 b3) (o3 : O b3) (o4 : O b4) :
    DevA c O H' p dx a1 a2 b3 b4 kvs ws { pages := d.pages, writes := d.writes, log := lg, steps := sl, done := n, most := mo } := by
  have nb := D.fresh h4
  have im : ∀ a ds, Im H1 O (DevG p a1 a2 a4) a ds → Im H' O (DevG p a1 a2 b4) a ds := fun a ds i => ⟨k.get i.1 fun z => i.2.2 (.inl z), i.2.1, by
    rintro (z | z | z | z)
    · exact i.2.2 (.inl z)
    · exact i.2.2 (.inr (.inl z))
    · exact i.2.2 (.inr (.inr (.inl z)))
    · exact ne_of_none i.1 h4 z⟩
  exact ⟨o, k.get D.pg D.np1.symm, Paired.mono (fun _ _ r => r.im im) D.pr, k.get D.wr D.np2.symm, Paired.mono (fun _ _ r => r.im k im) D.wp, ⟨e3, o3, n3⟩, e4, fun z => nb (.inr (.inr (.inl z.symm))), by
    rintro x (z | z | z | z)
    · exact D.ow _ (.inl z)
    · exact D.ow _ (.inr (.inl z))
    · exact D.ow _ (.inr (.inr (.inl z)))
    · rw [z]; exact o4⟩
def sp_Device_sync_log (c : Cl) : Sp := fun vs H Q E => ∃ p O d, vs = [.ref p] ∧ DevAt c H p O d ∧ Sml d ∧ spD c H p O (dSyncL d) (Q .non) E
theorem ok_Device_sync_log (T : Txt K mg c) : GM P w K mg base (L2.CX P w) 2 c.Device "sync_log" (sp_Device_sync_log c) := by
  obtain ⟨f, fd, F, gf, gi⟩ := T.f_Device_sync_log
  have tc_Device := T.cl_Device; have tn_Device_pages := T.n_Device_pages; have tn_Device_page_writes := T.n_Device_page_writes; have tn_Device_durable_log := T.n_Device_durable_log; have tn_Device_log_steps := T.n_Device_log_steps; have tn_Device_done := T.n_Device_done; have tn_Device_most := T.n_Device_most
  refine ⟨f, fd, ["self"], F.okX sc_Device_sync_log ?_ (fun cdv A outer s H vs Q E hr h => ?_), ⟨gf, gi, F.kp⟩, (F.binds (ps := ["self"]) fun _ _ _ _ _ _ us hl => match us, hl with | [_], _ => rfl)⟩
  · rintro vs H Q E ⟨_, _, _, rfl, _⟩
    rfl
  · obtain ⟨p, O0, d, rfl, hD, sm, k⟩ := h
    obtain ⟨O, dx, a1, a2, a3, a4, kvs, ws, eO, D, og⟩ := hD.opn
    have fr : ∀ {x}, H x = none → O x := fun h => by rw [eO]; exact .inr h
    have ho := D.o
    refine ⟨_, (pss_cons (ps_expr (pe_gm0 T.cl_Device (ok_Device_step T) (pv 0) (hr.mono (by decide)) (passE (E := E) rfl rfl rfl rfl)))
      (pss_cons (ps_fld (pv 0) (pe_gm0 T.cl_Device (ok_Device_log T) (pv 0) (hr.mono (by decide)) pass0S) rfl)
      (pss_one (ps_fld (pv 0) (pe_lst pa_nil) rfl)))), ?_⟩
    walk_at "cx"
    walk_at "rd"
    refine ⟨O, p, dx, a1, a2, a3, a4, kvs, ws, d, rfl, D, fun hc H1 D1 k1 => ?_, fun hc => k.no hc hD⟩
    have ho1 := D1.o
    walk_at "rd"
    refine ⟨p, _, _, rfl, D1.clo eO, sm, fun b H2 hb k2 hb2 => ?_⟩
    have D2 := D1.same k2
    have ho2 := D2.o
    have nbp : b ≠ p := fun z => D1.fresh hb (.inl z)
    walk_at "rd"
    intro H3 p3 k3
    have hb3 := k3.get hb2 nbp
    walk_at "rd"
    refine x_newL fun e H4 he k4 he4 => ?_
    have hb4 := k4.get hb3 id
    walk_at "rd"
    intro H5 p5 k5
    have nep : e ≠ p := fun z => by rw [z, p3] at he; cases he
    have nbe : b ≠ e := ne_of_none hb3 he
    have he2 : H2 e = none := k3.free he nep
    have k12 : Kp (F1 p) H H2 := k1.trans k2 fun _ z => z.elim
    have kk : Kp (F1 p) H2 H5 := (k3.trans k4 fun _ z => z.elim).trans k5 fun _ z => .inl z
    have q : DevA c O H5 p dx a1 a2 b e kvs ws { pages := d.pages, writes := d.writes, log := clog d, steps := [], done := d.done + 1, most := d.most } :=
      D2.newL (lg := clog d) (sl := []) he2 kk p5 (k5.get hb4 nbp) (k5.get he4 nep) (by
        rintro (z | z | z | z)
        · exact nbp z
        · exact D1.fresh hb (.inr (.inl z))
        · exact D1.fresh hb (.inr (.inr (.inl z)))
        · exact nbe z) (fr (k1.free hb nbp)) (fr (k12.free he2 nep))
    exact k.yes hc (q.clo eO) (Stp.nO (G := DevG p a1 a2 a4) ((k12.mono F1.g).trans kk fun _ z => .inl (.inl z)) og)
def sp_Device_durable_page (c : Cl) : Sp := fun vs H Q _ => ∃ p O d n, vs = [.ref p, .int n] ∧ DevAt c H p O d ∧ ∀ b H', H b = none → Kp F0 H H' → H' b = some (.lst ((dpg d n).map V.int)) → Q (.ref b) H'
--HOT Device.durable_page
theorem ok_Device_durable_page (T : Txt K mg c) : GM P w K mg base CX0 1 c.Device "durable_page" (sp_Device_durable_page c) := by
  obtain ⟨f, fd, F, gf, gi⟩ := T.f_Device_durable_page
  obtain ⟨_, mg_PAGE_SIZE⟩ := T.m_PAGE_SIZE
  have tc_Device := T.cl_Device; have tn_Device_pages := T.n_Device_pages; have tn_Device_page_writes := T.n_Device_page_writes; have tn_Device_durable_log := T.n_Device_durable_log; have tn_Device_log_steps := T.n_Device_log_steps; have tn_Device_done := T.n_Device_done; have tn_Device_most := T.n_Device_most
  refine ⟨f, fd, ["self", "number"], F.ok sc_Device_durable_page ?_ (fun cdv A outer s H vs Q E hr h => ?_), ⟨gf, gi, F.kp⟩, (F.binds (ps := ["self", "number"]) fun _ _ _ _ _ _ us hl => match us, hl with | [_, _], _ => rfl)⟩
  · rintro vs H Q E ⟨_, _, _, _, rfl, _⟩
    rfl
  · obtain ⟨p, O0, d, n, rfl, hD, k⟩ := h
    obtain ⟨O, dx, a1, a2, a3, a4, kvs, ws, eO, D, og⟩ := hD.opn
    have fr : ∀ {x}, H x = none → O x := fun h => by rw [eO]; exact .inr h
    have ho := D.o
    have hp := D.pg
    refine ⟨_, (pss_one (ps_ret (pe_callTy (r := rLstQ K) c_list (by rfl) T.z_list (by decide +kernel) (pa_cons (pe_dget2 (hu_of hr) (pe_fldK rfl (pv 0)) (pv 1) (pe_op op_rep (pe_lst (pa_cons pe_int pa_nil)) (pe_glob (v := .int 256) rfl mg_PAGE_SIZE ⟨_, rfl⟩)) ⟨rfl, rfl, rfl, rfl⟩) pa_nil)))), ?_⟩
    walk_at "cx"
    walk_at "rd"
    refine x_newL fun z1 H1 hz1 k1 hz11 => ?_
    walk_at "rd"
    refine x_rep hz11 (by decide) (by decide) fun z2 H2 hz2 k2 hz22 => ?_
    have D2 := (D.same k1).same k2
    have hp2 := D2.pg
    walk_at "rd"
    have ez : List.replicate (256 : Int).toNat (V.int 0) = zeros.map V.int := by unfold zeros; rw [List.map_replicate]; rfl
    rw [ez] at hz22
    have fin : ∀ {x : Addr} {ds : List Int}, H2 x = some (.lst (ds.map V.int)) → dpg d n = ds → rLstQ K [.ref x] H2 Q := fun {x ds} hx e => by
      refine x_lstL (SqL.of hx) fun b H3 hb k3 hb3 => ?_
      exact k b H3 (k1.free (k2.free hb id) id) ((k1.trans k2 fun _ z => z.elim).trans k3 fun _ z => z.elim) (by rw [e]; exact hb3)
    rcases get_pr RPg.key n D2.pr with ⟨e1, e2⟩ | ⟨v, ds, e1, e2, _, a, rfl, i⟩
    · rw [e1]
      exact fin hz22 (by unfold dpg; rw [e2]; rfl)
    · rw [e1]
      exact fin i.1 (by unfold dpg; rw [e2]; rfl)
--TOH
def sp_Device_page (c : Cl) : Sp := fun vs H Q _ => ∃ p O d n, vs = [.ref p, .int n] ∧ DevAt c H p O d ∧ ∀ b H', H b = none → Kp F0 H H' → H' b = some (.lst ((cpg d n).map V.int)) → Q (.ref b) H'
theorem prev {α β : Type} {R : α → β → Prop} : ∀ {l : List α} {m : List β}, Paired R l m → Paired R l.reverse m.reverse
  | _, _, .nil => .nil
  | _, _, .cons h t => by
    rw [List.reverse_cons, List.reverse_cons]
    exact (prev t).snoc h
theorem ok_Device_page (T : Txt K mg c) : GM P w K mg base CX0 2 c.Device "page" (sp_Device_page c) := by
  obtain ⟨f, fd, F, gf, gi⟩ := T.f_Device_page
  have tc_Device := T.cl_Device; have tn_Device_pages := T.n_Device_pages; have tn_Device_page_writes := T.n_Device_page_writes; have tn_Device_durable_log := T.n_Device_durable_log; have tn_Device_log_steps := T.n_Device_log_steps; have tn_Device_done := T.n_Device_done; have tn_Device_most := T.n_Device_most
  refine ⟨f, fd, ["self", "number"], F.ok sc_Device_page ?_ (fun cdv A outer s H vs Q E hr h => ?_), ⟨gf, gi, F.kp⟩, (F.binds (ps := ["self", "number"]) fun _ _ _ _ _ _ us hl => match us, hl with | [_, _], _ => rfl)⟩
  · rintro vs H Q E ⟨_, _, _, _, rfl, _⟩
    rfl
  · obtain ⟨p, O0, d, n, rfl, hD, k⟩ := h
    obtain ⟨O, dx, a1, a2, a3, a4, kvs, ws, eO, D, og⟩ := hD.opn
    have fr : ∀ {x}, H x = none → O x := fun h => by rw [eO]; exact .inr h
    have ho := D.o
    have hw := D.wr
    refine ⟨_, (pss_cons (ps_for PassesOwn.never rfl (pi_revK rfl (pi_reversed (by rfl) T.z_reversed (pa_cons (pe_fldK rfl (pv 0)) pa_nil))) (pg_kT rfl (pg_tup (n := 2) rfl (pgs_cons (pg_name (i := 2) sc_Device_page.nd rfl (Or.inl rfl)) (pgs_cons (pg_name (i := 3) sc_Device_page.nd rfl (Or.inl rfl)) pgs_nil)))) (pss_one (ps_if (pt_cmpR op_eq (pv 2) (pv 1) (nomark _)) (pss_one (ps_ret (pe_callTy (r := rLstQ K) c_list (by rfl) T.z_list (by decide +kernel) (pa_cons (pv 3) pa_nil)))) pss_nil)))
      (pss_one (ps_ret (pe_gm T.cl_Device (ok_Device_durable_page T) (pv 0) (hr.mono (by decide)) pass0S (pa_cons (pv 1) pa_nil))))), ?_⟩
    walk_at "cx"
    walk_at "rd"
    refine wfor Wk.rev (fun i σ H' => ∃ u v, σ = [some (.ref p), some (.int n), u, v] ∧ H = H' ∧ (d.writes.reverse.take i).find? (fun q => decide (q.1 = n)) = none)
      ⟨none, none, rfl, rfl, rfl⟩ (fun i σ H' ⟨_, _, _, e, _⟩ => by rw [← e]; exact SqL.of hw) ?_ ?_
    · rintro i x σ H2 ex ⟨u, v, rfl, rfl, hf⟩
      obtain ⟨q, eq, t, a, rfl, ht, hi⟩ := pget (prev D.wp) ex
      walk_at "rd"
      have tk : d.writes.reverse.take (i + 1) = d.writes.reverse.take i ++ [q] := by rw [List.take_succ, eq]; rfl
      refine ite_dec (fun e => ?_) fun e => ?_
      · walk_at "rd"
        refine x_lstL (SqL.of hi.1) fun b H3 hb k3 hb3 => ?_
        refine k b H3 hb k3 ?_
        have lt : i < d.writes.reverse.length := (List.getElem?_eq_some_iff.mp eq).1
        have e2 : d.writes.reverse.find? (fun q => decide (q.1 = n)) = some q := by
          rw [← List.take_append_drop (i + 1) d.writes.reverse, tk, List.find?_append, List.find?_append, hf]
          rw [List.find?_cons_of_pos (by exact decide_eq_true e)]; rfl
        unfold cpg
        rw [e2]
        exact hb3
      · refine ⟨_, _, rfl, rfl, ?_⟩
        rw [tk, List.find?_append, hf, List.find?_cons_of_neg (by simpa using e)]; rfl
    · rintro σ H2 ⟨u, v, rfl, rfl, hf⟩
      rw [List.length_reverse, show ws.length = d.writes.reverse.length by rw [List.length_reverse]; exact D.wp.length, List.take_length] at hf
      walk_at "rd"
      refine ⟨p, _, d, n, rfl, hD, fun b H3 hb k3 hb3 => k b H3 hb k3 ?_⟩
      unfold cpg
      rw [hf]
      exact hb3
def sp_Device_steps (c : Cl) : Sp := fun vs H Q _ => ∃ p O d, vs = [.ref p] ∧ DevAt c H p O d ∧ Q (.int d.done) H
--HOT Device.steps
theorem ok_Device_steps (T : Txt K mg c) : GM P w K mg base CX0 1 c.Device "steps" (sp_Device_steps c) := by
  obtain ⟨f, fd, F, gf, gi⟩ := T.f_Device_steps
  have tc_Device := T.cl_Device; have tn_Device_pages := T.n_Device_pages; have tn_Device_page_writes := T.n_Device_page_writes; have tn_Device_durable_log := T.n_Device_durable_log; have tn_Device_log_steps := T.n_Device_log_steps; have tn_Device_done := T.n_Device_done; have tn_Device_most := T.n_Device_most
  refine ⟨f, fd, ["self"], F.ok sc_Device_steps ?_ (fun cdv A outer s H vs Q E hr h => ?_), ⟨gf, gi, F.kp⟩, (F.binds (ps := ["self"]) fun _ _ _ _ _ _ us hl => match us, hl with | [_], _ => rfl)⟩
  · rintro vs H Q E ⟨_, _, _, rfl, _⟩
    rfl
  · obtain ⟨p, O0, d, rfl, hD, k⟩ := h
    obtain ⟨O, dx, a1, a2, a3, a4, kvs, ws, eO, D, og⟩ := hD.opn
    have fr : ∀ {x}, H x = none → O x := fun h => by rw [eO]; exact .inr h
    have ho := D.o
    refine ⟨_, (pss_one (ps_ret (pe_fldK rfl (pv 0)))), ?_⟩
    walk_at "cx"
    walk_at "rd"
    exact k
--TOH
def sp_Device_pending (c : Cl) : Sp := fun vs H Q _ => ∃ p O d, vs = [.ref p] ∧ DevAt c H p O d ∧ ∀ b H', Kp F0 H H' → H' b = some (.tup [.int d.writes.length, .int d.steps.length]) → Q (.ref b) H'
--HOT Device.pending
theorem ok_Device_pending (T : Txt K mg c) : GM P w K mg base CX0 1 c.Device "pending" (sp_Device_pending c) := by
  obtain ⟨f, fd, F, gf, gi⟩ := T.f_Device_pending
  have tc_Device := T.cl_Device; have tn_Device_pages := T.n_Device_pages; have tn_Device_page_writes := T.n_Device_page_writes; have tn_Device_durable_log := T.n_Device_durable_log; have tn_Device_log_steps := T.n_Device_log_steps; have tn_Device_done := T.n_Device_done; have tn_Device_most := T.n_Device_most
  refine ⟨f, fd, ["self"], F.ok sc_Device_pending ?_ (fun cdv A outer s H vs Q E hr h => ?_), ⟨gf, gi, F.kp⟩, (F.binds (ps := ["self"]) fun _ _ _ _ _ _ us hl => match us, hl with | [_], _ => rfl)⟩
  · rintro vs H Q E ⟨_, _, _, rfl, _⟩
    rfl
  · obtain ⟨p, O0, d, rfl, hD, k⟩ := h
    obtain ⟨O, dx, a1, a2, a3, a4, kvs, ws, eO, D, og⟩ := hD.opn
    have fr : ∀ {x}, H x = none → O x := fun h => by rw [eO]; exact .inr h
    have ho := D.o
    have hw := D.wr
    have hs := D.st
    refine ⟨_, (pss_one (ps_ret (pe_tup (pa_cons (pe_callB (r := rLenQ K) c_len (by rfl) T.z_len PySem.boot_len (pa_cons (pe_fldK rfl (pv 0)) pa_nil)) (pa_cons (pe_callB (r := rLenQ K) c_len (by rfl) T.z_len PySem.boot_len (pa_cons (pe_fldK rfl (pv 0)) pa_nil)) pa_nil))))), ?_⟩
    walk_at "cx"
    walk_at "rd"
    rw [D.wp.length, List.length_map]
    refine x_newT fun b H1 hb k1 hb1 => ?_
    exact k b H1 k1 hb1
--TOH
end
/-! ### the pager -/
structure PgS where
  dev : DevS
  com : List (Int × List Int)
  dir : List (Int × List Int)
def gpg (s : PgS) (n : Int) : List Int := match aget s.dir n with
  | some d => d
  | none => match aget s.com n with
    | some d => d
    | none => cpg s.dev n
def pwr (n : Int) (ds : List Int) (s : PgS) : PgS := { s with dir := aput s.dir n ds }
def fld (s : PgS) (k : Nat) : Int := rn (((gpg s 0).drop (4 * k)).take 4)
def spl (ds : List Int) (k : Nat) (v : Int) : List Int := ds.take (4 * k) ++ wn 4 v ++ ds.drop (4 * (k + 1))
def setf (k : Nat) (v : Int) (s : PgS) : PgS := pwr 0 (spl (gpg s 0) k v) s
def cnth (s : PgS) : PgS := if fld s 6 = 0 then setf 6 1 s else s
def palloc (s : PgS) : PgS × Int := if fld s 7 = 0 then (pwr (fld s 6) zeros (setf 6 (fld s 6 + 1) s), fld s 6) else (pwr (fld s 7) zeros (setf 7 (rn ((gpg s (fld s 7)).take 4)) s), fld s 7)
def prel (n : Int) (s : PgS) : PgS := setf 7 n (pwr n (wn 4 (fld s 7) ++ List.replicate 252 0) s)
def proll (s : PgS) : PgS := cnth { s with dir := [] }
def PagG (p a1 a2 : Addr) (Od : Addr → Prop) : Addr → Prop := fun b => b = p ∨ b = a1 ∨ b = a2 ∨ Od b
structure PagA (c : Cl) (O Od : Addr → Prop) (H : Hp) (p q dx a1 a2 : Addr) (k1 k2 : List (Key × V)) (s : PgS) : Prop where
  o : H p = some (.ins c.Pager dx (F_Pager (.ref q) (.ref a1) (.ref a2)))
  dv : DevAt c H q Od s.dev
  h1 : H a1 = some (.dK k1)
  p1 : Paired (RPg H O (PagG p a1 a2 Od)) k1 s.com
  h2 : H a2 = some (.dK k2)
  p2 : Paired (RPg H O (PagG p a1 a2 Od)) k2 s.dir
  ne : a1 ≠ a2
  np : ¬ Od p
  n1 : ¬ Od a1
  n2 : ¬ Od a2
  ow : ∀ b, PagG p a1 a2 Od b → O b
/-- a pager at p of the device at q: it owns O, its device Od -/
def PagAt (c : Cl) (H : Hp) (p q : Addr) (O Od : Addr → Prop) (s : PgS) : Prop := (∃ dx a1 a2 k1 k2, PagA c O Od H p q dx a1 a2 k1 k2 s) ∧ ∀ b, O b → ∃ o, H b = some o
section
variable {c : Cl} {O O0 O' Od Od' F : Addr → Prop} {H H' : Hp} {p q dx a1 a2 b : Addr} {k1 k2 : List (Key × V)} {s : PgS}
theorem PagA.n1p (h : PagA c O Od H p q dx a1 a2 k1 k2 s) : p ≠ a1 := ne_of h.o h.h1 (by intro z; cases z)
theorem PagA.n2p (h : PagA c O Od H p q dx a1 a2 k1 k2 s) : p ≠ a2 := ne_of h.o h.h2 (by intro z; cases z)
theorem PagA.trk (D : PagA c O Od H p q dx a1 a2 k1 k2 s) (g : PagG p a1 a2 Od b) : ∃ o, H b = some o := by
  rcases g with rfl | rfl | rfl | g
  · exact ⟨_, D.o⟩
  · exact ⟨_, D.h1⟩
  · exact ⟨_, D.h2⟩
  · exact D.dv.2 b g
theorem PagA.fresh (D : PagA c O Od H p q dx a1 a2 k1 k2 s) (hb : H b = none) : ¬ PagG p a1 a2 Od b := fun z => by
  obtain ⟨o, ho⟩ := D.trk z
  rw [hb] at ho; cases ho
theorem PagA.off (k : Kp F H H') (h : PagA c O Od H p q dx a1 a2 k1 k2 s) (n : ∀ b, F b → ¬ O b) : PagA c O Od H' p q dx a1 a2 k1 k2 s := by
  have g : ∀ b, PagG p a1 a2 Od b → ¬ F b := fun b z f => n b f (h.ow b z)
  have im : ∀ a ds, Im H O (PagG p a1 a2 Od) a ds → Im H' O (PagG p a1 a2 Od) a ds := fun a ds i => ⟨k.get i.1 fun z => n _ z i.2.1, i.2⟩
  exact ⟨k.get h.o (g _ (.inl rfl)), h.dv.off k fun b z o => g b (.inr (.inr (.inr o))) z, k.get h.h1 (g _ (.inr (.inl rfl))), h.p1.mono fun _ _ r => r.im im, k.get h.h2 (g _ (.inr (.inr (.inl rfl)))), h.p2.mono fun _ _ r => r.im im, h.ne, h.np, h.n1, h.n2, h.ow⟩
theorem PagA.same (k : Kp F0 H H') (h : PagA c O Od H p q dx a1 a2 k1 k2 s) : PagA c O Od H' p q dx a1 a2 k1 k2 s := h.off k fun _ z => z.elim
theorem PagA.own (h : PagA c O Od H p q dx a1 a2 k1 k2 s) (n : ∀ b, O b → O' b) : PagA c O' Od H p q dx a1 a2 k1 k2 s :=
  ⟨h.o, h.dv, h.h1, h.p1.mono fun _ _ r => r.im fun _ _ i => ⟨i.1, n _ i.2.1, i.2.2⟩, h.h2, h.p2.mono fun _ _ r => r.im fun _ _ i => ⟨i.1, n _ i.2.1, i.2.2⟩, h.ne, h.np, h.n1, h.n2, fun b z => n _ (h.ow b z)⟩
theorem PagAt.opn (h : PagAt c H p q O0 Od s) : ∃ (O : Addr → Prop) (dx a1 a2 : Addr) (k1 k2 : List (Key × V)), O = (fun x => O0 x ∨ H x = none) ∧ PagA c O Od H p q dx a1 a2 k1 k2 s ∧ ∀ b, PagG p a1 a2 Od b → O0 b := by
  obtain ⟨⟨dx, a1, a2, k1, k2, D⟩, _⟩ := h
  exact ⟨_, dx, a1, a2, k1, k2, rfl, D.own fun _ z => .inl z, D.ow⟩
theorem PagA.clo (D : PagA c O Od H' p q dx a1 a2 k1 k2 s) (e : O = fun x => O0 x ∨ H x = none) : PagAt c H' p q (nO O0 H H') Od s := by
  subst e
  refine ⟨⟨dx, a1, a2, k1, k2, D.o, D.dv, D.h1, D.p1.mono fun _ _ r => r.im fun a ds i => ⟨i.1, ⟨i.2.1, _, i.1⟩, i.2.2⟩, D.h2, D.p2.mono fun _ _ r => r.im fun a ds i => ⟨i.1, ⟨i.2.1, _, i.1⟩, i.2.2⟩, D.ne, D.np, D.n1, D.n2, fun b z => ⟨D.ow b z, D.trk z⟩⟩, fun b z => z.2⟩
theorem PagAt.off (k : Kp F H H') (h : PagAt c H p q O Od s) (n : ∀ b, F b → ¬ O b) : PagAt c H' p q O Od s := by
  obtain ⟨⟨dx, a1, a2, k1, k2, D⟩, t⟩ := h
  refine ⟨⟨dx, a1, a2, k1, k2, D.off k n⟩, fun b z => ?_⟩
  obtain ⟨o, ho⟩ := t b z
  exact ⟨o, k.get ho fun y => n b y z⟩
theorem PagAt.same (k : Kp F0 H H') (h : PagAt c H p q O Od s) : PagAt c H' p q O Od s := h.off k fun _ z => z.elim
theorem PagAt.fresh (h : PagAt c H p q O Od s) (hb : H b = none) : ¬ O b := fun z => by
  obtain ⟨o, ho⟩ := h.2 b z
  rw [hb] at ho; cases ho
theorem PagAt.dv (h : PagAt c H p q O Od s) : DevAt c H q Od s.dev ∧ ∀ b, Od b → O b := by
  obtain ⟨⟨dx, a1, a2, k1, k2, D⟩, t⟩ := h
  exact ⟨D.dv, fun b z => D.ow b (.inr (.inr (.inr z)))⟩
/-- a page put into the dirty ones -/
theorem PagA.put2 {l : Addr} {n : Int} {ds : List Int} (D : PagA c O Od H p q dx a1 a2 k1 k2 s) (i : Im H O (PagG p a1 a2 Od) l ds) (k : Kp (F1 a2) H H') (h : H' a2 = some (.dK (putK k2 (.inl n) (.ref l)))) :
    PagA c O Od H' p q dx a1 a2 k1 (putK k2 (.inl n) (.ref l)) (pwr n ds s) := by
  have sub : ∀ x, F1 a2 x → PagG p a1 a2 Od x := fun x z => .inr (.inr (.inl z))
  exact ⟨k.get D.o D.n2p, D.dv.off k fun b z o => D.n2 (by rw [← z]; exact o), k.get D.h1 D.ne, D.p1.mono fun _ _ r => r.kp k sub, h, put_pr RPg.key ⟨rfl, l, rfl, i.kp k sub⟩ (D.p2.mono fun _ _ r => r.kp k sub), D.ne, D.np, D.n1, D.n2, D.ow⟩
theorem PagA.put1 {l : Addr} {n : Int} {ds : List Int} (D : PagA c O Od H p q dx a1 a2 k1 k2 s) (i : Im H O (PagG p a1 a2 Od) l ds) (k : Kp (F1 a1) H H') (h : H' a1 = some (.dK (putK k1 (.inl n) (.ref l)))) :
    PagA c O Od H' p q dx a1 a2 (putK k1 (.inl n) (.ref l)) k2 { s with com := aput s.com n ds } := by
  have sub : ∀ x, F1 a1 x → PagG p a1 a2 Od x := fun x z => .inr (.inl z)
  exact ⟨k.get D.o D.n1p, D.dv.off k fun b z o => D.n1 (by rw [← z]; exact o), h, put_pr RPg.key ⟨rfl, l, rfl, i.kp k sub⟩ (D.p1.mono fun _ _ r => r.kp k sub), k.get D.h2 D.ne.symm, D.p2.mono fun _ _ r => r.kp k sub, D.ne, D.np, D.n1, D.n2, D.ow⟩
/-- the device steps -/
theorem PagA.dev {d' : DevS} (D : PagA c O Od H p q dx a1 a2 k1 k2 s) (V : DevAt c H' q Od' d') (t : Stp Od Od' H H') (fr : ∀ b, H b = none → O b) : PagA c O Od' H' p q dx a1 a2 k1 k2 { s with dev := d' } := by
  have im : ∀ a ds, Im H O (PagG p a1 a2 Od) a ds → Im H' O (PagG p a1 a2 Od') a ds := fun a ds i => ⟨t.kp.get i.1 fun z => i.2.2 (.inr (.inr (.inr z))), i.2.1, by
    rintro (z | z | z | z)
    · exact i.2.2 (.inl z)
    · exact i.2.2 (.inr (.inl z))
    · exact i.2.2 (.inr (.inr (.inl z)))
    · exact t.kp0 i.1 (fun z => i.2.2 (.inr (.inr (.inr z)))) z⟩
  refine ⟨t.kp.get D.o D.np, V, t.kp.get D.h1 D.n1, D.p1.mono fun _ _ r => r.im im, t.kp.get D.h2 D.n2, D.p2.mono fun _ _ r => r.im im, D.ne, t.kp0 D.o D.np, t.kp0 D.h1 D.n1, t.kp0 D.h2 D.n2, ?_⟩
  rintro b (z | z | z | z)
  · exact D.ow b (.inl z)
  · exact D.ow b (.inr (.inl z))
  · exact D.ow b (.inr (.inr (.inl z)))
  · rcases t.gr b z with y | y
    · exact D.ow b (.inr (.inr (.inr y)))
    · exact fr b y
/-- a new dict of dirty ones -/
theorem PagA.new2 {e : Addr} (D : PagA c O Od H p q dx a1 a2 k1 k2 s) (he : H e = none) (k : Kp (F1 p) H H') (o : H' p = some (.ins c.Pager dx (F_Pager (.ref q) (.ref a1) (.ref e)))) (h : H' e = some (.dK [])) (oe : O e) : PagA c O Od H' p q dx a1 e k1 [] { s with dir := [] } := by
  have nb := D.fresh he
  have im : ∀ a ds, Im H O (PagG p a1 a2 Od) a ds → Im H' O (PagG p a1 e Od) a ds := fun a ds i => ⟨k.get i.1 fun z => i.2.2 (.inl z), i.2.1, by
    rintro (z | z | z | z)
    · exact i.2.2 (.inl z)
    · exact i.2.2 (.inr (.inl z))
    · exact ne_of_none i.1 he z
    · exact i.2.2 (.inr (.inr (.inr z)))⟩
  exact ⟨o, D.dv.off k fun b z y => D.np (by rw [← z]; exact y), k.get D.h1 D.n1p.symm, D.p1.mono fun _ _ r => r.im im, h, .nil, fun z => nb (.inr (.inl z.symm)), D.np, D.n1, fun z => nb (.inr (.inr (.inr z))), by
    rintro b (z | z | z | z)
    · exact D.ow b (.inl z)
    · exact D.ow b (.inr (.inl z))
    · rw [z]; exact oe
    · exact D.ow b (.inr (.inr (.inr z)))⟩
theorem PagA.new1 {e : Addr} (D : PagA c O Od H p q dx a1 a2 k1 k2 s) (he : H e = none) (k : Kp (F1 p) H H') (o : H' p = some (.ins c.Pager dx (F_Pager (.ref q) (.ref e) (.ref a2)))) (h : H' e = some (.dK [])) (oe : O e) : PagA c O Od H' p q dx e a2 [] k2 { s with com := [] } := by
  have nb := D.fresh he
  have im : ∀ a ds, Im H O (PagG p a1 a2 Od) a ds → Im H' O (PagG p e a2 Od) a ds := fun a ds i => ⟨k.get i.1 fun z => i.2.2 (.inl z), i.2.1, by
    rintro (z | z | z | z)
    · exact i.2.2 (.inl z)
    · exact ne_of_none i.1 he z
    · exact i.2.2 (.inr (.inr (.inl z)))
    · exact i.2.2 (.inr (.inr (.inr z)))⟩
  exact ⟨o, D.dv.off k fun b z y => D.np (by rw [← z]; exact y), h, .nil, k.get D.h2 D.n2p.symm, D.p2.mono fun _ _ r => r.im im, fun z => nb (.inr (.inr (.inl z))), D.np, fun z => nb (.inr (.inr (.inr z))), D.n2, by
    rintro b (z | z | z | z)
    · exact D.ow b (.inl z)
    · rw [z]; exact oe
    · exact D.ow b (.inr (.inr (.inl z)))
    · exact D.ow b (.inr (.inr (.inr z)))⟩
end
/-- sizes of a pager's state -/
def SmlP (s : PgS) : Prop := s.com.length ≤ 1000000 ∧ s.dir.length ≤ 1000000 ∧ Sz s.com ∧ Sz s.dir
section
variable {P : Program} {w : World} {K : PySem.W.Frag} {mg : Str → Option Value} {base : Heap} {c : Cl}
def sp_Pager_read (c : Cl) : Sp := fun vs H Q _ => ∃ p q O Od s n, vs = [.ref p, .int n] ∧ PagAt c H p q O Od s ∧ ∀ b H', H b = none → Kp F0 H H' → H' b = some (.lst ((gpg s n).map V.int)) → Q (.ref b) H'
theorem ok_Pager_read (T : Txt K mg c) : GM P w K mg base CX0 3 c.Pager "read" (sp_Pager_read c) := by
  obtain ⟨f, fd, F, gf, gi⟩ := T.f_Pager_read
  have tc_Device := T.cl_Device; have tn_Device_pages := T.n_Device_pages; have tn_Device_page_writes := T.n_Device_page_writes; have tn_Device_durable_log := T.n_Device_durable_log; have tn_Device_log_steps := T.n_Device_log_steps; have tn_Device_done := T.n_Device_done; have tn_Device_most := T.n_Device_most
  have tc_Pager := T.cl_Pager; have tn_Pager_device := T.n_Pager_device; have tn_Pager_committed := T.n_Pager_committed; have tn_Pager_dirty := T.n_Pager_dirty
  refine ⟨f, fd, ["self", "number"], F.ok sc_Pager_read ?_ (fun cdv A outer s H vs Q E hr h => ?_), ⟨gf, gi, F.kp⟩, (F.binds (ps := ["self", "number"]) fun _ _ _ _ _ _ us hl => match us, hl with | [_, _], _ => rfl)⟩
  · rintro vs H Q E ⟨_, _, _, _, _, _, rfl, _⟩
    rfl
  · obtain ⟨p, q, O0, Od, s, n, rfl, ⟨⟨dx, a1, a2, k1, k2, D⟩, _⟩, k⟩ := h
    obtain ⟨⟨dx2, b1, b2, b3, b4, kvs, ws, DD⟩, _⟩ := id D.dv
    have ho := D.o
    have h1 := D.h1
    have h2 := D.h2
    have hq := DD.o
    refine ⟨_, (pss_cons (ps_if (pt_cmp (pc_din (hu_of hr) (pv 1) (pe_fldK rfl (pv 0)))) (pss_one (ps_ret (pe_callTy (r := rLstQ K) c_list (by rfl) T.z_list (by decide +kernel) (pa_cons (pe_dget (hu_of hr) (pe_fldK rfl (pv 0)) (pv 1) (fun _ _ => rfl)) pa_nil)))) pss_nil)
      (pss_cons (ps_if (pt_cmp (pc_din (hu_of hr) (pv 1) (pe_fldK rfl (pv 0)))) (pss_one (ps_ret (pe_callTy (r := rLstQ K) c_list (by rfl) T.z_list (by decide +kernel) (pa_cons (pe_dget (hu_of hr) (pe_fldK rfl (pv 0)) (pv 1) (fun _ _ => rfl)) pa_nil)))) pss_nil)
      (pss_one (ps_ret (pe_gm T.cl_Device (ok_Device_page T) (pe_fldK rfl (pv 0)) (hr.mono (by decide)) pass0S (pa_cons (pv 1) pa_nil)))))), ?_⟩
    walk_at "cx"
    walk_at "rd"
    rcases get_pr RPg.key n D.p2 with ⟨e1, e2⟩ | ⟨v, ds, e1, e2, _, a, rfl, i⟩
    · rw [e1]
      refine if_no ?_
      walk_at "rd"
      rcases get_pr RPg.key n D.p1 with ⟨e3, e4⟩ | ⟨v, ds, e3, e4, _, a, rfl, i⟩
      · rw [e3]
        refine if_no ?_
        walk_at "rd"
        refine ⟨q, Od, s.dev, n, rfl, D.dv, fun b H' hb k' h' => k b H' hb k' ?_⟩
        rw [h']; unfold gpg; rw [e2, e4]
      · rw [e3]
        refine if_so ?_
        walk_at "rd"
        refine x_dgI (.inl h1) e3 ?_
        walk_at "rd"
        refine x_lstL (SqL.of i.1) fun b H' hb k' h' => k b H' hb k' ?_
        rw [h']; unfold gpg; rw [e2, e4]
    · rw [e1]
      refine if_so ?_
      walk_at "rd"
      refine x_dgI (.inl h2) e1 ?_
      walk_at "rd"
      refine x_lstL (SqL.of i.1) fun b H' hb k' h' => k b H' hb k' ?_
      rw [h']; unfold gpg; rw [e2]
def sp_Pager_write (c : Cl) (K : PySem.W.Frag) : Sp := fun vs H Q _ => ∃ p q O Od s n l ds, vs = [.ref p, .int n, .ref l] ∧ PagAt c H p q O Od s ∧ SqL K H l (ds.map V.int) ∧ s.dir.length ≤ 1000000 ∧ ∀ H' O', PagAt c H' p q O' Od (pwr n ds s) → Stp O O' H H' → Q .non H'
theorem ok_Pager_write (T : Txt K mg c) : GM P w K mg base CX0 1 c.Pager "write" (sp_Pager_write c K) := by
  obtain ⟨f, fd, F, gf, gi⟩ := T.f_Pager_write
  have tc_Pager := T.cl_Pager; have tn_Pager_device := T.n_Pager_device; have tn_Pager_committed := T.n_Pager_committed; have tn_Pager_dirty := T.n_Pager_dirty
  refine ⟨f, fd, ["self", "number", "data"], F.ok sc_Pager_write ?_ (fun cdv A outer s H vs Q E hr h => ?_), ⟨gf, gi, F.kp⟩, (F.binds (ps := ["self", "number", "data"]) fun _ _ _ _ _ _ us hl => match us, hl with | [_, _, _], _ => rfl)⟩
  · rintro vs H Q E ⟨_, _, _, _, _, _, _, _, rfl, _⟩
    rfl
  · obtain ⟨p, q, O0, Od, s, n, l, ds, rfl, hP, hl, sm, k⟩ := h
    obtain ⟨O, dx, a1, a2, k1, k2, eO, D, og⟩ := hP.opn
    refine ⟨_, (pss_one (ps_dput (hu_of hr) (pe_fldK rfl (pv 0)) (pv 1) (pe_callTy (r := rLstQ K) c_list (by rfl) T.z_list (by decide +kernel) (pa_cons (pv 2) pa_nil)) rfl)), ?_⟩
    walk_at "cx"
    walk_at "rd"
    refine x_lstL hl fun b H1 hb kk hb1 => ?_
    have D1 := D.same kk
    have ho := D1.o
    have h2 := D1.h2
    have lk : k2.length = s.dir.length := D.p2.length
    walk_at "rd"
    refine x_dpI h2 (by omega) fun H2 e2 k2' => ?_
    have D2 := D1.put2 (ds := ds) ⟨hb1, by rw [eO]; exact .inr hb, D.fresh hb⟩ k2' e2
    exact k H2 _ (D2.clo eO) (Stp.nO (G := PagG p a1 a2 Od) ((kk.mono fun _ z => z.elim).trans k2' fun x z => .inl (.inr (.inr (.inl z)))) og)
def sp_Pager_field (c : Cl) : Sp := fun vs H Q _ => ∃ (p q : Addr) (O Od : Addr → Prop) (s : PgS) (k : Nat), vs = [.ref p, .int k] ∧ k ≤ 1000 ∧ PagAt c H p q O Od s ∧ ∀ H', Kp F0 H H' → Q (.int (fld s k)) H'
theorem ok_Pager_field (T : Txt K mg c) : GM P w K mg base CX0 4 c.Pager "field" (sp_Pager_field c) := by
  obtain ⟨f, fd, F, gf, gi⟩ := T.f_Pager_field
  obtain ⟨_, mg_FIELD_SIZE⟩ := T.m_FIELD_SIZE
  have tc_Pager := T.cl_Pager; have tn_Pager_device := T.n_Pager_device; have tn_Pager_committed := T.n_Pager_committed; have tn_Pager_dirty := T.n_Pager_dirty
  refine ⟨f, fd, ["self", "k"], F.ok sc_Pager_field ?_ (fun cdv A outer s H vs Q E hr h => ?_), ⟨gf, gi, F.kp⟩, (F.binds (ps := ["self", "k"]) fun _ _ _ _ _ _ us hl => match us, hl with | [_, _], _ => rfl)⟩
  · rintro vs H Q E ⟨_, _, _, _, _, _, rfl, _⟩
    rfl
  · obtain ⟨p, q, O0, Od, s, n, rfl, hn, hP, k⟩ := h
    obtain ⟨⟨dx, a1, a2, k1, k2, D⟩, _⟩ := id hP
    have ho := D.o
    refine ⟨_, (pss_one (ps_ret (pe_g (ok_read_number T) (hr.mono (by decide)) pass0S (pa_cons (pe_gm T.cl_Pager (ok_Pager_read T) (pv 0) (hr.mono (by decide)) pass0S (pa_cons pe_int pa_nil)) (pa_cons (pe_op op_mul (pe_glob (v := .int 4) rfl mg_FIELD_SIZE ⟨_, rfl⟩) (pv 1)) (pa_cons (pe_glob (v := .int 4) rfl mg_FIELD_SIZE ⟨_, rfl⟩) pa_nil)))))), ?_⟩
    walk_at "cx"
    walk_at "rd"
    refine ⟨p, q, O0, Od, s, 0, rfl, hP, fun b H1 hb k1 e1 => ?_⟩
    walk_at "rd"
    refine ⟨b, gpg s 0, 4 * n, 4, by simp, SqL.of e1, fun H2 k2 => ?_⟩
    exact k H2 (k1.trans k2 fun _ z => z.elim)
def sp_Pager_set_field (c : Cl) : Sp := fun vs H Q _ => ∃ (p q : Addr) (O Od : Addr → Prop) (s : PgS) (k : Nat) (v : Int), vs = [.ref p, .int k, .int v] ∧ PagAt c H p q O Od s ∧ s.dir.length ≤ 1000000 ∧ 4 * (k + 1) ≤ (gpg s 0).length ∧ (gpg s 0).length ≤ 1000000 ∧ ∀ H' O', PagAt c H' p q O' Od (setf k v s) → Stp O O' H H' → Q .non H'
theorem ok_Pager_set_field (T : Txt K mg c) : GM P w K mg base CX0 4 c.Pager "set_field" (sp_Pager_set_field c) := by
  obtain ⟨f, fd, F, gf, gi⟩ := T.f_Pager_set_field
  obtain ⟨_, mg_FIELD_SIZE⟩ := T.m_FIELD_SIZE
  have tc_Pager := T.cl_Pager; have tn_Pager_device := T.n_Pager_device; have tn_Pager_committed := T.n_Pager_committed; have tn_Pager_dirty := T.n_Pager_dirty
  refine ⟨f, fd, ["self", "k", "number"], F.ok sc_Pager_set_field ?_ (fun cdv A outer s H vs Q E hr h => ?_), ⟨gf, gi, F.kp⟩, (F.binds (ps := ["self", "k", "number"]) fun _ _ _ _ _ _ us hl => match us, hl with | [_, _, _], _ => rfl)⟩
  · rintro vs H Q E ⟨_, _, _, _, _, _, _, rfl, _⟩
    rfl
  · obtain ⟨p, q, O0, Od, s, n, v, rfl, hP, sm, hl, hz, k⟩ := h
    obtain ⟨⟨dx, a1, a2, k1, k2, D⟩, _⟩ := id hP
    have ho := D.o
    refine ⟨_, (pss_cons (ps_set (i := 3) sc_Pager_set_field.nd rfl (Or.inl rfl) (pe_gm T.cl_Pager (ok_Pager_read T) (pv 0) (hr.mono (by decide)) pass0S (pa_cons pe_int pa_nil)))
      (pss_cons (ps_asg (pe_g (ok_write_number T) (hr.mono (by decide)) pass0S (pa_cons (pe_glob (v := .int 4) rfl mg_FIELD_SIZE ⟨_, rfl⟩) (pa_cons (pv 2) pa_nil))) (pg_slS (pv 3) (pe_op op_mul (pe_glob (v := .int 4) rfl mg_FIELD_SIZE ⟨_, rfl⟩) (pv 1)) (pe_op op_mul (pe_glob (v := .int 4) rfl mg_FIELD_SIZE ⟨_, rfl⟩) (pe_op op_add (pv 1) pe_int))))
      (pss_one (ps_expr (pe_gm T.cl_Pager (ok_Pager_write T) (pv 0) (hr.mono (by decide)) pass0S (pa_cons pe_int (pa_cons (pv 3) pa_nil))))))), ?_⟩
    walk_at "cx"
    walk_at "rd"
    refine ⟨p, q, O0, Od, s, 0, rfl, hP, fun b H1 hb k1' e1 => ?_⟩
    walk_at "rd"
    refine ⟨4, v, rfl, by decide, fun b2 H2 hb2 k2 e2 => ?_⟩
    walk_at "rd"
    refine x_gsl ?_
    walk_at "rd"
    have nbb : b ≠ b2 := ne_of_none e1 hb2
    refine x_slS (k2.get e1 id) e2 nbb (by omega) (by omega) (by rw [List.length_map]; omega) (by rw [List.length_map, List.length_map, wn_len, sizeLine_eq]; omega) fun H3 e3 k3 => ?_
    have e3' : H3 b = some (.lst ((spl (gpg s 0) n v).map V.int)) := by
      rw [e3]
      unfold spl
      rw [show (4 * (n : Int)).toNat = 4 * n by omega, show (4 * ((n : Int) + 1)).toNat = 4 * (n + 1) by omega]
      simp only [List.map_append, List.map_take, List.map_drop]
    have k03 : Kp F0 H H3 := (k1'.trans k2 fun _ z => z.elim).trans k3 fun x z => .inr (by rw [z]; exact hb)
    have ho3 := k03.get ho id
    walk_at "rd"
    refine ⟨p, q, O0, Od, s, 0, b, _, rfl, hP.same k03, SqL.of e3', sm, fun H' O' P' s' => k H' O' P' ((Stp.pure k03).trans s')⟩
/-! what the page dicts hold -/
theorem aget_put_eq (l : List (Int × List Int)) (n : Int) (v : List Int) : aget (aput l n v) n = some v := by
  unfold aget aput
  split
  next h =>
    rw [List.find?_map]
    have e : ((fun q : Int × List Int => decide (q.1 = n)) ∘ fun q => if q.1 = n then (q.1, v) else q) = fun q => decide (q.1 = n) := by
      funext q; show decide ((if q.1 = n then (q.1, v) else q).1 = n) = _; split <;> rfl
    rw [e]
    cases z : l.find? fun q => decide (q.1 = n) with
    | none =>
      rw [List.find?_eq_none] at z
      rw [List.any_eq_true] at h
      obtain ⟨x, hx, hy⟩ := h
      exact absurd hy (z x hx)
    | some q =>
      have := List.find?_some z
      simp only [decide_eq_true_eq] at this
      simp [this]
  next h =>
    have z : l.find? (fun q => decide (q.1 = n)) = none := by
      rw [List.find?_eq_none]; intro x hx hy
      exact h (List.any_eq_true.mpr ⟨x, hx, hy⟩)
    rw [List.find?_append, z]; simp
theorem aget_put_ne (l : List (Int × List Int)) {n m : Int} (v : List Int) (h : m ≠ n) : aget (aput l n v) m = aget l m := by
  unfold aget aput
  split
  · rw [List.find?_map]
    have e : ((fun q : Int × List Int => decide (q.1 = m)) ∘ fun q => if q.1 = n then (q.1, v) else q) = fun q => decide (q.1 = m) := by
      funext q; show decide ((if q.1 = n then (q.1, v) else q).1 = m) = _; split <;> rfl
    rw [e]
    cases z : l.find? fun q => decide (q.1 = m) with
    | none => rfl
    | some q =>
      have := List.find?_some z
      simp only [decide_eq_true_eq] at this
      have q2 : q.1 ≠ n := fun y => h (this.symm.trans y)
      simp [q2]
  · rw [List.find?_append]
    have : ((n, v) :: []).find? (fun q : Int × List Int => decide (q.1 = m)) = none := by simp [h.symm]
    rw [this, Option.or_none]
theorem gpg_eq (s : PgS) (n : Int) (ds : List Int) : gpg (pwr n ds s) n = ds := by unfold gpg pwr; rw [aget_put_eq]
theorem gpg_ne (s : PgS) {n m : Int} (ds : List Int) (h : m ≠ n) : gpg (pwr n ds s) m = gpg s m := by unfold gpg pwr; rw [aget_put_ne _ _ h]
theorem pwr_len (s : PgS) (n : Int) (ds : List Int) : (pwr n ds s).dir.length ≤ s.dir.length + 1 := aput_len _ _ _
theorem spl_len {ds : List Int} {k : Nat} {v : Int} (h : 4 * (k + 1) ≤ ds.length) : (spl ds k v).length = ds.length := by
  unfold spl; simp only [List.length_append, List.length_take, List.length_drop, wn_len]; omega
theorem gpg_setf {s : PgS} {k : Nat} {v n : Int} (h : 4 * (k + 1) ≤ (gpg s 0).length) : (gpg (setf k v s) n).length = (gpg s n).length := by
  by_cases e : n = 0
  · subst e; unfold setf; rw [gpg_eq, spl_len h]
  · unfold setf; rw [gpg_ne _ _ e]
theorem setf_len (s : PgS) (k : Nat) (v : Int) : (setf k v s).dir.length ≤ s.dir.length + 1 := aput_len _ _ _
def sp_Pager_count_head (c : Cl) : Sp := fun vs H Q _ => ∃ (p q : Addr) (O Od : Addr → Prop) (s : PgS), vs = [.ref p] ∧ PagAt c H p q O Od s ∧ s.dir.length ≤ 1000000 ∧ (gpg s 0).length = 256 ∧ ∀ H' O', PagAt c H' p q O' Od (cnth s) → Stp O O' H H' → Q .non H'
theorem ok_Pager_count_head (T : Txt K mg c) : GM P w K mg base CX0 5 c.Pager "count_head" (sp_Pager_count_head c) := by
  obtain ⟨f, fd, F, gf, gi⟩ := T.f_Pager_count_head
  obtain ⟨_, mg_PAGES⟩ := T.m_PAGES
  have tc_Pager := T.cl_Pager; have tn_Pager_device := T.n_Pager_device; have tn_Pager_committed := T.n_Pager_committed; have tn_Pager_dirty := T.n_Pager_dirty
  refine ⟨f, fd, ["self"], F.ok sc_Pager_count_head ?_ (fun cdv A outer s H vs Q E hr h => ?_), ⟨gf, gi, F.kp⟩, (F.binds (ps := ["self"]) fun _ _ _ _ _ _ us hl => match us, hl with | [_], _ => rfl)⟩
  · rintro vs H Q E ⟨_, _, _, _, _, rfl, _⟩
    rfl
  · obtain ⟨p, q, O0, Od, s, rfl, hP, sm, hl, k⟩ := h
    obtain ⟨⟨dx, a1, a2, k1, k2, D⟩, _⟩ := id hP
    have ho := D.o
    refine ⟨_, (pss_one (ps_if (pt_cmpR op_eq (pe_gm T.cl_Pager (ok_Pager_field T) (pv 0) (hr.mono (by decide)) pass0S (pa_cons (pe_glob (v := .int 6) rfl mg_PAGES ⟨_, rfl⟩) pa_nil)) pe_int (nomark _)) (pss_one (ps_expr (pe_gm T.cl_Pager (ok_Pager_set_field T) (pv 0) (hr.mono (by decide)) pass0S (pa_cons (pe_glob (v := .int 6) rfl mg_PAGES ⟨_, rfl⟩) (pa_cons pe_int pa_nil))))) pss_nil)), ?_⟩
    walk_at "cx"
    walk_at "rd"
    refine ⟨p, q, O0, Od, s, 6, rfl, by decide, hP, fun H1 kk => ?_⟩
    have ho1 := kk.get ho id
    walk_at "rd"
    refine ite_dec (fun e => ?_) fun e => ?_
    · walk_at "rd"
      refine ⟨p, q, O0, Od, s, 6, 1, rfl, hP.same kk, sm, by omega, by omega, fun H' O' P' s' => k H' O' ?_ ((Stp.pure kk).trans s')⟩
      unfold cnth; rw [if_pos e]; exact P'
    · refine k H1 O0 ?_ (Stp.pure kk)
      unfold cnth; rw [if_neg e]; exact hP.same kk
def sp_Pager_allocate (c : Cl) : Sp := fun vs H Q _ => ∃ (p q : Addr) (O Od : Addr → Prop) (s : PgS), vs = [.ref p] ∧ PagAt c H p q O Od s ∧ s.dir.length ≤ 999998 ∧ (gpg s 0).length = 256 ∧ ∀ H' O', PagAt c H' p q O' Od (palloc s).1 → Stp O O' H H' → Q (.int (palloc s).2) H'
theorem ok_Pager_allocate (T : Txt K mg c) : GM P w K mg base CX0 5 c.Pager "allocate" (sp_Pager_allocate c) := by
  obtain ⟨f, fd, F, gf, gi⟩ := T.f_Pager_allocate
  obtain ⟨_, mg_PAGES⟩ := T.m_PAGES
  obtain ⟨_, mg_FREE⟩ := T.m_FREE
  obtain ⟨_, mg_FIELD_SIZE⟩ := T.m_FIELD_SIZE
  obtain ⟨_, mg_PAGE_SIZE⟩ := T.m_PAGE_SIZE
  have tc_Pager := T.cl_Pager; have tn_Pager_device := T.n_Pager_device; have tn_Pager_committed := T.n_Pager_committed; have tn_Pager_dirty := T.n_Pager_dirty
  refine ⟨f, fd, ["self"], F.ok sc_Pager_allocate ?_ (fun cdv A outer s H vs Q E hr h => ?_), ⟨gf, gi, F.kp⟩, (F.binds (ps := ["self"]) fun _ _ _ _ _ _ us hl => match us, hl with | [_], _ => rfl)⟩
  · rintro vs H Q E ⟨_, _, _, _, _, rfl, _⟩
    rfl
  · obtain ⟨p, q, O0, Od, s, rfl, hP, sm, hl, k⟩ := h
    obtain ⟨⟨dx, a1, a2, k1, k2, D⟩, _⟩ := id hP
    have ho := D.o
    refine ⟨_, (pss_cons (ps_set (i := 1) sc_Pager_allocate.nd rfl (Or.inl rfl) (pe_gm T.cl_Pager (ok_Pager_field T) (pv 0) (hr.mono (by decide)) pass0S (pa_cons (pe_glob (v := .int 7) rfl mg_FREE ⟨_, rfl⟩) pa_nil)))
      (C8.pss_cut (ps_if (pt_cmpR op_eq (pv 1) pe_int (nomark _)) (pss_cons (ps_set (i := 1) sc_Pager_allocate.nd rfl (Or.inl rfl) (pe_gm T.cl_Pager (ok_Pager_field T) (pv 0) (hr.mono (by decide)) pass0S (pa_cons (pe_glob (v := .int 6) rfl mg_PAGES ⟨_, rfl⟩) pa_nil)))
      (pss_one (ps_expr (pe_gm T.cl_Pager (ok_Pager_set_field T) (pv 0) (hr.mono (by decide)) pass0S (pa_cons (pe_glob (v := .int 6) rfl mg_PAGES ⟨_, rfl⟩) (pa_cons (pe_op op_add (pv 1) pe_int) pa_nil)))))) (pss_one (ps_expr (pe_gm T.cl_Pager (ok_Pager_set_field T) (pv 0) (hr.mono (by decide)) pass0S (pa_cons (pe_glob (v := .int 7) rfl mg_FREE ⟨_, rfl⟩) (pa_cons (pe_g (ok_read_number T) (hr.mono (by decide)) pass0S (pa_cons (pe_gm T.cl_Pager (ok_Pager_read T) (pv 0) (hr.mono (by decide)) pass0S (pa_cons (pv 1) pa_nil)) (pa_cons pe_int (pa_cons (pe_glob (v := .int 4) rfl mg_FIELD_SIZE ⟨_, rfl⟩) pa_nil)))) pa_nil))))))
      (pss_cons (ps_expr (pe_gm T.cl_Pager (ok_Pager_write T) (pv 0) (hr.mono (by decide)) pass0S (pa_cons (pv 1) (pa_cons (pe_op op_rep (pe_lst (pa_cons pe_int pa_nil)) (pe_glob (v := .int 256) rfl mg_PAGE_SIZE ⟨_, rfl⟩)) pa_nil))))
      (pss_one (ps_ret (pv 1)))))), ?_⟩
    walk_at "cx"
    walk_at "rd"
    refine ⟨p, q, O0, Od, s, 7, rfl, by decide, hP, fun H1 kk => ?_⟩
    have ho1 := kk.get ho id
    walk_at "rd"
    refine x_cut (fun σ' H' => ∃ n O' s', σ' = [some (.ref p), some (.int n)] ∧ PagAt c H' p q O' Od s' ∧ Stp O0 O' H H' ∧ s'.dir.length ≤ 1000000 ∧ palloc s = (pwr n zeros s', n)) ?_ ?_
    · walk_at "rd"
      refine ite_dec (fun e => ?_) fun e => ?_
      · walk_at "rd"
        refine ⟨p, q, O0, Od, s, 6, rfl, by decide, hP.same kk, fun H2 kk2 => ?_⟩
        have ho2 := kk2.get ho1 id
        walk_at "rd"
        refine ⟨p, q, O0, Od, s, 6, fld s 6 + 1, rfl, (hP.same kk).same kk2, by omega, by omega, by omega, fun H' O' P' s' => ?_⟩
        refine ⟨_, O', _, rfl, P', (Stp.pure (kk.trans kk2 fun _ z => z.elim)).trans s', by have := setf_len s 6 (fld s 6 + 1); omega, ?_⟩
        unfold palloc; rw [if_pos e]
      · walk_at "rd"
        refine ⟨p, q, O0, Od, s, fld s 7, rfl, hP.same kk, fun b H2 hb kk2 e2 => ?_⟩
        have ho2 := kk2.get ho1 id
        walk_at "rd"
        refine ⟨b, gpg s (fld s 7), 0, 4, rfl, SqL.of e2, fun H3 kk3 => ?_⟩
        rw [List.drop_zero]
        refine ⟨p, q, O0, Od, s, 7, _, rfl, ((hP.same kk).same kk2).same kk3, by omega, by omega, by omega, fun H' O' P' s' => ?_⟩
        refine ⟨_, O', _, rfl, P', (Stp.pure ((kk.trans kk2 fun _ z => z.elim).trans kk3 fun _ z => z.elim)).trans s', by have := setf_len s 7 (rn ((gpg s (fld s 7)).take 4)); omega, ?_⟩
        unfold palloc; rw [if_neg e]
    · rintro σ' H2 ⟨n, O', s', rfl, P', st, lz, ea⟩
      obtain ⟨⟨dx, a1, a2, k1, k2, D⟩, _⟩ := id P'
      have ho := D.o
      walk_at "rd"
      refine x_newL fun z0 H3 hz0 k3 e3 => ?_
      walk_at "rd"
      refine x_rep e3 (by decide) (by decide) fun z1 H4 hz1 k4 e4 => ?_
      have e4' : H4 z1 = some (.lst (zeros.map V.int)) := by rw [e4]; unfold zeros; rw [List.map_replicate]; rfl
      have k24 : Kp F0 H2 H4 := k3.trans k4 fun _ z => z.elim
      refine ⟨p, q, O', Od, s', n, z1, zeros, rfl, P'.same k24, SqL.of e4', lz, fun H5 O5 P5 s5 => ?_⟩
      walk_at "rd"
      have z := k H5 O5 (by rw [ea]; exact P5) ((st.trans (Stp.pure k24)).trans s5)
      rw [ea] at z
      exact z
def sp_Pager_release (c : Cl) : Sp := fun vs H Q _ => ∃ (p q : Addr) (O Od : Addr → Prop) (s : PgS) (n : Int), vs = [.ref p, .int n] ∧ PagAt c H p q O Od s ∧ s.dir.length ≤ 999998 ∧ (gpg s 0).length = 256 ∧ ∀ H' O', PagAt c H' p q O' Od (prel n s) → Stp O O' H H' → Q .non H'
theorem ok_Pager_release (T : Txt K mg c) : GM P w K mg base CX0 5 c.Pager "release" (sp_Pager_release c) := by
  obtain ⟨f, fd, F, gf, gi⟩ := T.f_Pager_release
  obtain ⟨_, mg_FREE⟩ := T.m_FREE
  obtain ⟨_, mg_FIELD_SIZE⟩ := T.m_FIELD_SIZE
  obtain ⟨_, mg_PAGE_SIZE⟩ := T.m_PAGE_SIZE
  have tc_Pager := T.cl_Pager; have tn_Pager_device := T.n_Pager_device; have tn_Pager_committed := T.n_Pager_committed; have tn_Pager_dirty := T.n_Pager_dirty
  refine ⟨f, fd, ["self", "number"], F.ok sc_Pager_release ?_ (fun cdv A outer s H vs Q E hr h => ?_), ⟨gf, gi, F.kp⟩, (F.binds (ps := ["self", "number"]) fun _ _ _ _ _ _ us hl => match us, hl with | [_, _], _ => rfl)⟩
  · rintro vs H Q E ⟨_, _, _, _, _, _, rfl, _⟩
    rfl
  · obtain ⟨p, q, O0, Od, s, n, rfl, hP, sm, hl, k⟩ := h
    obtain ⟨⟨dx, a1, a2, k1, k2, D⟩, _⟩ := id hP
    have ho := D.o
    refine ⟨_, (pss_cons (ps_expr (pe_gm T.cl_Pager (ok_Pager_write T) (pv 0) (hr.mono (by decide)) pass0S (pa_cons (pv 1) (pa_cons (pe_op op_cat (pe_g (ok_write_number T) (hr.mono (by decide)) pass0S (pa_cons (pe_glob (v := .int 4) rfl mg_FIELD_SIZE ⟨_, rfl⟩) (pa_cons (pe_gm T.cl_Pager (ok_Pager_field T) (pv 0) (hr.mono (by decide)) pass0S (pa_cons (pe_glob (v := .int 7) rfl mg_FREE ⟨_, rfl⟩) pa_nil)) pa_nil))) (pe_op op_rep (pe_lst (pa_cons pe_int pa_nil)) (pe_op op_sub (pe_glob (v := .int 256) rfl mg_PAGE_SIZE ⟨_, rfl⟩) (pe_glob (v := .int 4) rfl mg_FIELD_SIZE ⟨_, rfl⟩)))) pa_nil))))
      (pss_one (ps_expr (pe_gm T.cl_Pager (ok_Pager_set_field T) (pv 0) (hr.mono (by decide)) pass0S (pa_cons (pe_glob (v := .int 7) rfl mg_FREE ⟨_, rfl⟩) (pa_cons (pv 1) pa_nil)))))), ?_⟩
    walk_at "cx"
    walk_at "rd"
    refine ⟨p, q, O0, Od, s, 7, rfl, by decide, hP, fun H1 kk => ?_⟩
    have ho1 := kk.get ho id
    walk_at "rd"
    refine ⟨4, fld s 7, rfl, by decide, fun b H2 hb k2 e2 => ?_⟩
    walk_at "rd"
    refine x_newL fun z0 H3 hz0 k3 e3 => ?_
    walk_at "rd"
    refine x_rep e3 (by decide) (by decide) fun z1 H4 hz1 k4 e4 => ?_
    walk_at "rd"
    refine x_catL (k4.get (k3.get e2 id) id) e4 (by rw [List.length_map, wn_len, List.length_replicate]; decide) fun l H5 hl5 k5 e5 => ?_
    have e5' : H5 l = some (.lst ((wn 4 (fld s 7) ++ List.replicate 252 0).map V.int)) := by rw [e5, List.map_append, List.map_replicate]; rfl
    have k05 : Kp F0 H H5 := (((kk.trans k2 fun _ z => z.elim).trans k3 fun _ z => z.elim).trans k4 fun _ z => z.elim).trans k5 fun _ z => z.elim
    walk_at "rd"
    refine ⟨p, q, O0, Od, s, n, l, _, rfl, hP.same k05, SqL.of e5', by omega, fun H6 O6 P6 s6 => ?_⟩
    obtain ⟨⟨dx, a1, a2, k1, k2, D6⟩, _⟩ := id P6
    have ho6 := D6.o
    have l0 : (gpg (pwr n (wn 4 (fld s 7) ++ List.replicate 252 0) s) 0).length = 256 := by
      by_cases hn : (0 : Int) = n
      · rw [← hn, gpg_eq, List.length_append, wn_len, List.length_replicate]
      · rw [gpg_ne _ _ hn]; exact hl
    have l1 := pwr_len s n (wn 4 (fld s 7) ++ List.replicate 252 0)
    walk_at "rd"
    refine ⟨p, q, O6, Od, _, 7, n, rfl, P6, by omega, by omega, by omega, fun H7 O7 P7 s7 => k H7 O7 P7 (((Stp.pure k05).trans s6).trans s7)⟩
end
/-! ### the pager's raising methods -/
theorem Kp.under {F : Addr → Prop} {H H' : Hp} (k : Kp F H H') (a : Addr) (u : HO) : Kp F (upd H a u) (upd H' a u) := fun b o h n => by
  by_cases e : b = a
  · subst e; rw [upd_same] at h ⊢; exact h
  · rw [upd_ne e] at h ⊢; exact k b o h n
theorem Wk.keys {d : Addr} {o : Obj} {kvs : List (Key × V)} : Wk (Itk d o kvs) (fun H => H d = some (.frz o (.dK kvs))) (kvs.map fun kv => kV kv.1) where
  go := fun i H h g => ⟨g, by rw [List.length_map] at h; exact h⟩
  yld := fun i H x H' h _ y => by
    obtain ⟨e, k, v, h1, h2⟩ := y
    exact ⟨e.symm, by rw [List.getElem?_map, h1, h2]; rfl⟩
  stop := fun H g => ⟨g, by rw [List.length_map]; exact Nat.le_refl _⟩
section
variable {σ : L2.St} {H : Hp} {D : Ends} {td : TE} {t : TS} {d : Addr} {u : HO} {R : It → Hp → Prop} {o : Obj} {kvs : List (Key × V)}
def rKeysQ (x : V) (H : Hp) (R : It → Hp → Prop) : Prop := ∃ d o, x = .ref d ∧ ((∃ kvs, H d = some (.frz o (.dK kvs)) ∧ R (Itk d o kvs) H) ∨ ∃ kvs, H d = some (.frz o (.dT kvs)) ∧ R (Itkt d o kvs) H)
theorem x_keys (h : td σ H fun x H1 => rKeysQ x H1 R) : iKeys td σ H R := h
theorem x_kq (h : H d = some (.frz o (.dK kvs))) (q : R (Itk d o kvs) H) : rKeysQ (.ref d) H R := ⟨d, o, rfl, .inl ⟨kvs, h, q⟩⟩
theorem x_lock (h : H d = some u) (m : Mut (some u)) (q : ∀ od, t ⟨fun σ' H' => H' d = some (.frz od u) ∧ D.nx σ' (upd H' d u), fun v H' => H' d = some (.frz od u) ∧ D.rt v (upd H' d u), fun σ' H' => H' d = some (.frz od u) ∧ D.bk σ' (upd H' d u), fun σ' H' => H' d = some (.frz od u) ∧ D.ct σ' (upd H' d u)⟩ σ (upd H d (.frz od u))) : tLock t D σ H := ⟨d, u, h, m, q⟩
end
/-- the keys, ascending -/
def skeys (l : List (Int × List Int)) : List Int := (l.map (·.1)).mergeSort fun a b => decide (a ≤ b)
theorem skeys_perm (l : List (Int × List Int)) : (skeys l).Perm (l.map (·.1)) := List.mergeSort_perm _ _
theorem skeys_sorted (l : List (Int × List Int)) : (skeys l).Pairwise (· ≤ ·) := by
  have h := List.pairwise_mergeSort (le := fun a b : Int => decide (a ≤ b)) (fun a b c h1 h2 => by simp only [decide_eq_true_eq] at *; omega) (fun a b => by simp only [Bool.or_eq_true, decide_eq_true_eq]; omega) (l.map (·.1))
  exact h.imp fun x => by simpa using x
theorem skeys_eq {l : List (Int × List Int)} {ys : List Int} (p : ys.Perm (l.map (·.1))) (s : ys.Pairwise (· ≤ ·)) : ys = skeys l :=
  List.Perm.eq_of_pairwise (fun a b _ _ h1 h2 => Int.le_antisymm h1 h2) s (skeys_sorted l) (p.trans (skeys_perm l).symm)
theorem skeys_len (l : List (Int × List Int)) : (skeys l).length = l.length := by rw [(skeys_perm l).length_eq, List.length_map]
def grp (l : List (Int × List Int)) : List (Int × List Int) := (skeys l).map fun n => (n, (aget l n).getD [])
theorem grp_at {l : List (Int × List Int)} {i : Nat} {n : Int} (h : (skeys l)[i]? = some n) : (grp l)[i]? = some (n, (aget l n).getD []) := by unfold grp; rw [List.getElem?_map, h]; rfl
theorem mem_skeys {l : List (Int × List Int)} {n : Int} (h : n ∈ skeys l) : ∃ d, aget l n = some d ∧ (n, d) ∈ l := by
  have h1 := (skeys_perm l).mem_iff.mp h
  obtain ⟨q, hq, e⟩ := List.mem_map.mp h1
  unfold aget
  cases z : l.find? fun q => decide (q.1 = n) with
  | none =>
    rw [List.find?_eq_none] at z
    exact absurd (decide_eq_true e) (z q hq)
  | some r =>
    have h2 := List.find?_some z
    simp only [decide_eq_true_eq] at h2
    exact ⟨r.2, rfl, by rw [← h2]; exact List.mem_of_find?_eq_some z⟩
theorem aget_mem {l : List (Int × List Int)} {q : Int × List Int} (h : q ∈ l) : ∃ d, aget l q.1 = some d := by
  unfold aget
  cases z : l.find? fun r => decide (r.1 = q.1) with
  | none =>
    rw [List.find?_eq_none] at z
    exact absurd (decide_eq_true rfl) (z q h)
  | some r => exact ⟨r.2, rfl⟩
def andD (r : DevS × Bool) (f : DevS → DevS × Bool) : DevS × Bool := if r.2 = true then f r.1 else r
def coms (l m : List (Int × List Int)) : List (Int × List Int) := l.foldl (fun a q => aput a q.1 ((aget l q.1).getD [])) m
def pcommit (s : PgS) : PgS × Bool := if s.dir.length = 0 then (s, true) else
  let r := andD (dApp (wg (grp s.dir)) s.dev) dSyncL
  (if r.2 = true then { dev := r.1, com := coms s.dir s.com, dir := [] } else { s with dev := r.1 }, r.2)
def pwrites : List (Int × List Int) → DevS → DevS × Bool
  | [], d => (d, true)
  | q :: r, d => if (dWrite q.1 q.2 d).2 = true then pwrites r (dWrite q.1 q.2 d).1 else (d, false)
def pckpt (s : PgS) : PgS × Bool :=
  let r := andD (andD (andD (pwrites (grp s.com) s.dev) dSyncP) (dByte none)) dSyncL
  (if r.2 = true then { s with dev := r.1, com := [] } else { s with dev := r.1 }, r.2)
/-- the sizes that hold everywhere -/
structure PgZ (s : PgS) : Prop where
  w : s.dev.writes.length ≤ 400000
  p : s.dev.pages.length + s.dev.writes.length ≤ 1000000
  l : s.dev.log.length + s.dev.steps.length ≤ 7000000
  z1 : Sz s.dev.pages
  z2 : Sz s.dev.writes
  nc : s.com.length < 64
  nd : s.dir.length < 64
  lc : ∀ q ∈ s.com, q.2.length = 256
  ld : ∀ q ∈ s.dir, q.2.length = 256 ∧ 0 ≤ q.1 ∧ q.1 < 256 ^ 4
theorem PgZ.good {s : PgS} (h : PgZ s) : Good (grp s.dir) ∨ 60 < s.dir.length := by
  by_cases q : s.dir.length ≤ 60
  · refine .inl ⟨by unfold grp; rw [List.length_map, skeys_len]; exact q, fun x hx => ?_⟩
    unfold grp at hx
    obtain ⟨n, hn, rfl⟩ := List.mem_map.mp hx
    obtain ⟨d, hd, hm⟩ := mem_skeys hn
    have := h.ld _ hm
    rw [hd]
    exact ⟨this.2.1, this.2.2, this.1⟩
  · exact .inr (by omega)
theorem dApp_sm : ∀ (bs : List Int) (d : DevS), (dApp bs d).1.pages = d.pages ∧ (dApp bs d).1.writes = d.writes ∧ (dApp bs d).1.log = d.log
  | [], _ => ⟨rfl, rfl, rfl⟩
  | b :: bs, d => by
    show (if (dByte (some b) d).2 = true then dApp bs (dByte (some b) d).1 else (d, false)).1.pages = d.pages ∧ (if (dByte (some b) d).2 = true then dApp bs (dByte (some b) d).1 else (d, false)).1.writes = d.writes ∧ (if (dByte (some b) d).2 = true then dApp bs (dByte (some b) d).1 else (d, false)).1.log = d.log
    have h := dApp_sm bs (dByte (some b) d).1
    have h2 : (dByte (some b) d).1.pages = d.pages ∧ (dByte (some b) d).1.writes = d.writes ∧ (dByte (some b) d).1.log = d.log := by
      unfold dByte pw; split <;> exact ⟨rfl, rfl, rfl⟩
    split
    · exact ⟨h.1.trans h2.1, h.2.1.trans h2.2.1, h.2.2.trans h2.2.2⟩
    · exact ⟨rfl, rfl, rfl⟩
theorem PgZ.sml {s : PgS} (h : PgZ s) : Sml s.dev := ⟨by have := h.w; omega, by have := h.p; omega, by have := h.l; omega, h.z1, h.z2⟩
theorem PgZ.app {s : PgS} (h : PgZ s) {bs : List Int} (hb : bs.length ≤ 900000) : Sml (dApp bs s.dev).1 := by
  have e := dApp_sm bs s.dev
  have e2 := dApp_steps bs s.dev
  have := h.w; have := h.p; have := h.l
  exact ⟨by rw [e.2.1]; omega, by rw [e.1, e.2.1]; omega, by rw [e.2.2]; omega, by rw [e.1]; exact h.z1, by rw [e.2.1]; exact h.z2⟩
/-- what a raising method of the pager promises -/
def spP (c : Cl) (H : Hp) (p q : Addr) (O : Addr → Prop) (r : PgS × Bool) (Q : Hp → Prop) (E : XK) : Prop :=
  ∀ H' O' Od', PagAt c H' p q O' Od' r.1 → Stp O O' H H' → if r.2 = true then Q H' else E (.ref c.PowerCut) none H'
theorem spP.yes {c : Cl} {H H' : Hp} {p q : Addr} {O O' Od' : Addr → Prop} {r : PgS × Bool} {s' : PgS} {Q : Hp → Prop} {E : XK} (k : spP c H p q O r Q E) (e : r = (s', true)) (P : PagAt c H' p q O' Od' s') (t : Stp O O' H H') : Q H' := by
  have z := k H' O' Od' (by rw [e]; exact P) t
  rw [e, if_pos rfl] at z
  exact z
theorem spP.no {c : Cl} {H H' : Hp} {p q : Addr} {O O' Od' : Addr → Prop} {r : PgS × Bool} {s' : PgS} {Q : Hp → Prop} {E : XK} (k : spP c H p q O r Q E) (e : r = (s', false)) (P : PagAt c H' p q O' Od' s') (t : Stp O O' H H') : E (.ref c.PowerCut) none H' := by
  have z := k H' O' Od' (by rw [e]; exact P) t
  rw [e, if_neg Bool.false_ne_true] at z
  exact z
theorem keys_pr {O G : Addr → Prop} {H : Hp} : ∀ {kvs : List (Key × V)} {l : List (Int × List Int)}, Paired (RPg H O G) kvs l → kvs.map (·.1) = (l.map (·.1)).map Sum.inl
  | _, _, .nil => rfl
  | _, _, .cons r t => by rw [List.map_cons, List.map_cons, List.map_cons, keys_pr t, r.1]
theorem getE' {xs : List Int} {i : Nat} {x : V} (h : (xs.map V.int)[i]? = some x) : ∃ n, xs[i]? = some n ∧ x = .int n := by
  rw [List.getElem?_map] at h
  cases q : xs[i]? with
  | none => rw [q] at h; cases h
  | some z => rw [q] at h; exact ⟨z, rfl, (Option.some.inj h).symm⟩
theorem get_some {O G : Addr → Prop} {H : Hp} {kvs : List (Key × V)} {l : List (Int × List Int)} {n : Int} {ds : List Int} (t : Paired (RPg H O G) kvs l) (h : aget l n = some ds) : ∃ a, valV kvs (.inl n) = some (.ref a) ∧ Im H O G a ds := by
  rcases get_pr RPg.key n t with ⟨e1, e2⟩ | ⟨v, ds', e1, e2, _, a, ev, i⟩
  · rw [e2] at h; cases h
  · rw [e2] at h; cases h
    exact ⟨a, by rw [e1]; exact congrArg some ev, i⟩
section
variable {P : Program} {w : World} {K : PySem.W.Frag} {mg : Str → Option Value} {base : Heap} {c : Cl}
theorem pwrites_app : ∀ (ws : List (Int × List Int)) (d : DevS) (q : Int × List Int), (pwrites ws d).2 = true → pwrites (ws ++ [q]) d = dWrite q.1 q.2 (pwrites ws d).1
  | [], d, q, _ => by
    show (if (dWrite q.1 q.2 d).2 = true then ((dWrite q.1 q.2 d).1, true) else (d, false)) = dWrite q.1 q.2 d
    unfold dWrite pw
    by_cases h : can d = true
    · rw [if_pos h, if_pos rfl]
    · rw [if_neg h, if_neg Bool.false_ne_true]
  | r :: ws, d, q, h => by
    show (if (dWrite r.1 r.2 d).2 = true then pwrites (ws ++ [q]) (dWrite r.1 r.2 d).1 else (d, false)) = _
    by_cases y : (dWrite r.1 r.2 d).2 = true
    · have e : pwrites (r :: ws) d = pwrites ws (dWrite r.1 r.2 d).1 := by show (if _ then _ else _) = _; rw [if_pos y]
      rw [if_pos y, e]
      rw [e] at h
      exact pwrites_app ws _ q h
    · have e : pwrites (r :: ws) d = (d, false) := by show (if _ then _ else _) = _; rw [if_neg y]
      rw [e] at h
      cases h
theorem dWrite_no {n : Int} {ds : List Int} {d : DevS} (h : (dWrite n ds d).2 = false) : (dWrite n ds d).1 = d := by
  unfold dWrite pw at *
  by_cases q : can d = true
  · rw [if_pos q] at h; cases h
  · rw [if_neg q]
theorem pwrites_stop : ∀ (ws vs : List (Int × List Int)) (d : DevS) (q : Int × List Int), (pwrites ws d).2 = true → (dWrite q.1 q.2 (pwrites ws d).1).2 = false → pwrites (ws ++ q :: vs) d = ((pwrites ws d).1, false)
  | [], vs, d, q, _, h => by
    show (if (dWrite q.1 q.2 d).2 = true then _ else (d, false)) = (d, false)
    rw [if_neg (by rw [show (dWrite q.1 q.2 d).2 = false from h]; exact Bool.false_ne_true)]
  | r :: ws, vs, d, q, h, g => by
    show (if (dWrite r.1 r.2 d).2 = true then pwrites (ws ++ q :: vs) (dWrite r.1 r.2 d).1 else (d, false)) = _
    by_cases y : (dWrite r.1 r.2 d).2 = true
    · have e : pwrites (r :: ws) d = pwrites ws (dWrite r.1 r.2 d).1 := by show (if _ then _ else _) = _; rw [if_pos y]
      rw [if_pos y, e]
      rw [e] at h g
      exact pwrites_stop ws vs _ q h g
    · have e : pwrites (r :: ws) d = (d, false) := by show (if _ then _ else _) = _; rw [if_neg y]
      rw [e] at h
      cases h
/-- the writes of a checkpoint change the pending writes alone -/
theorem pwrites_sm : ∀ (ws : List (Int × List Int)) (d : DevS), (pwrites ws d).1.pages = d.pages ∧ (pwrites ws d).1.log = d.log ∧ (pwrites ws d).1.steps = d.steps ∧ (pwrites ws d).1.writes.length ≤ d.writes.length + ws.length ∧ (Sz d.writes → Sz ws → Sz (pwrites ws d).1.writes)
  | [], d => ⟨rfl, rfl, rfl, Nat.le_refl _, fun h _ => h⟩
  | r :: ws, d => by
    have h := pwrites_sm ws (dWrite r.1 r.2 d).1
    by_cases y : (dWrite r.1 r.2 d).2 = true
    · have e : pwrites (r :: ws) d = pwrites ws (dWrite r.1 r.2 d).1 := by show (if _ then _ else _) = _; rw [if_pos y]
      rw [e]
      have e2 : dWrite r.1 r.2 d = ({ d with done := d.done + 1, writes := d.writes ++ [(r.1, r.2)] }, true) := by
        unfold dWrite pw at *
        by_cases q : can d = true
        · rw [if_pos q]
        · rw [if_neg q] at y; cases y
      rw [e2] at h ⊢
      refine ⟨h.1, h.2.1, h.2.2.1, ?_, fun h1 h2 => h.2.2.2.2 ?_ fun q hq => h2 q (List.mem_cons_of_mem _ hq)⟩
      · have := h.2.2.2.1
        simp only [List.length_append, List.length_cons, List.length_nil] at this ⊢
        omega
      · intro q hq
        rcases List.mem_append.mp hq with hq | hq
        · exact h1 q hq
        · rw [List.mem_singleton.mp hq]; exact h2 r (by simp)
    · have e : pwrites (r :: ws) d = (d, false) := by show (if _ then _ else _) = _; rw [if_neg y]
      rw [e]
      exact ⟨rfl, rfl, rfl, Nat.le_add_right _ _, fun h1 _ => h1⟩
theorem grp_sz {l : List (Int × List Int)} (h : ∀ q ∈ l, q.2.length = 256) : Sz (grp l) := fun x hx => by
  unfold grp at hx
  obtain ⟨n, hn, rfl⟩ := List.mem_map.mp hx
  obtain ⟨d, hd, hm⟩ := mem_skeys hn
  rw [hd]
  exact Nat.le_of_eq (h _ hm)
/-- the sizes that a checkpoint needs -/
structure CkZ (s : PgS) : Prop where
  w : s.dev.writes.length ≤ 400000
  p : s.dev.pages.length + s.dev.writes.length ≤ 1000000
  l : s.dev.log.length + s.dev.steps.length ≤ 7000000
  z1 : Sz s.dev.pages
  z2 : Sz s.dev.writes
  nc : s.com.length < 64
  lc : ∀ q ∈ s.com, q.2.length = 256
theorem PgZ.ck {s : PgS} (h : PgZ s) : CkZ s := ⟨h.w, h.p, h.l, h.z1, h.z2, h.nc, h.lc⟩
def sp_Pager_checkpoint (c : Cl) : Sp := fun vs H Q E => ∃ (p q : Addr) (O Od : Addr → Prop) (s : PgS), vs = [.ref p] ∧ PagAt c H p q O Od s ∧ CkZ s ∧ spP c H p q O (pckpt s) (Q .non) E
theorem andD_yes {r : DevS × Bool} {f : DevS → DevS × Bool} (h : r.2 = true) : andD r f = f r.1 := by unfold andD; rw [if_pos h]
theorem andD_no {r : DevS × Bool} {f : DevS → DevS × Bool} (h : r.2 = false) : andD r f = r := by unfold andD; rw [if_neg (by rw [h]; exact Bool.false_ne_true)]
theorem ok_Pager_checkpoint (T : Txt K mg c) : GM P w K mg base (L2.CX P w) 3 c.Pager "checkpoint" (sp_Pager_checkpoint c) := by
  obtain ⟨f, fd, F, gf, gi⟩ := T.f_Pager_checkpoint
  have tc_Device := T.cl_Device; have tn_Device_pages := T.n_Device_pages; have tn_Device_page_writes := T.n_Device_page_writes; have tn_Device_durable_log := T.n_Device_durable_log; have tn_Device_log_steps := T.n_Device_log_steps; have tn_Device_done := T.n_Device_done; have tn_Device_most := T.n_Device_most
  have tc_Pager := T.cl_Pager; have tn_Pager_device := T.n_Pager_device; have tn_Pager_committed := T.n_Pager_committed; have tn_Pager_dirty := T.n_Pager_dirty
  refine ⟨f, fd, ["self"], F.okX sc_Pager_checkpoint ?_ (fun cdv A outer s0 H vs Q E hr h => ?_), ⟨gf, gi, F.kp⟩, (F.binds (ps := ["self"]) fun _ _ _ _ _ _ us hl => match us, hl with | [_], _ => rfl)⟩
  · rintro vs H Q E ⟨_, _, _, _, _, rfl, _⟩
    rfl
  · obtain ⟨p, q, O0, Od, s, rfl, hP, pz, k⟩ := h
    obtain ⟨O, dx, a1, a2, k1, k2, eO, D, og⟩ := hP.opn
    have fr : ∀ {H'}, Kp (PagG p a1 a2 Od) H H' → ∀ b, H' b = none → O b := fun {H'} kk b hb => by
      rw [eO]
      by_cases z : O0 b
      · exact .inl z
      · exact .inr (kk.free hb fun g => z (og b g))
    have ho := D.o
    have h1 := D.h1
    have lk : k1.length = s.com.length := D.p1.length
    have lgr : (grp s.com).length = s.com.length := by unfold grp; rw [List.length_map, skeys_len]
    have gsz := grp_sz pz.lc
    have nc := pz.nc
    have pzw := pz.w; have pzp := pz.p; have pzl := pz.l
    refine ⟨_, (pss_cons (ps_for (passes_of rfl) rfl (pi_listK rfl (pe_callB (c_sortedDI rfl) (by rfl) T.z_sorted (by decide +kernel) (pa_cons (pe_fldK rfl (pv 0)) pa_nil))) (pg_name (i := 1) sc_Pager_checkpoint.nd rfl (Or.inl rfl)) (pss_one (ps_expr (pe_gm T.cl_Device (ok_Device_write_page T) (pe_fldK rfl (pv 0)) (hr.mono (by decide)) (passE (E := E) rfl rfl rfl rfl) (pa_cons (pv 1) (pa_cons (pe_dget (hu_of hr) (pe_fldK rfl (pv 0)) (pv 1) (fun _ _ => rfl)) pa_nil))))))
      (pss_cons (ps_expr (pe_gm0 T.cl_Device (ok_Device_sync_pages T) (pe_fldK rfl (pv 0)) (hr.mono (by decide)) (passE (E := E) rfl rfl rfl rfl)))
      (pss_cons (ps_expr (pe_gm0 T.cl_Device (ok_Device_clear T) (pe_fldK rfl (pv 0)) (hr.mono (by decide)) (passE (E := E) rfl rfl rfl rfl)))
      (pss_cons (ps_expr (pe_gm0 T.cl_Device (ok_Device_sync_log T) (pe_fldK rfl (pv 0)) (hr.mono (by decide)) (passE (E := E) rfl rfl rfl rfl)))
      (pss_one (ps_fld (pv 0) pe_dnewK rfl)))))), ?_⟩
    walk_at "cx"
    walk_at "rd"
    refine x_srtD h1 (keys_pr D.p1) (by rw [List.length_map]; omega) fun ys ps H1 hy1 hy2 hps kk1 e1 => ?_
    obtain rfl := skeys_eq hy1 hy2
    have D1 := D.same kk1
    have nps := D.fresh hps
    have go : ∀ b, Od b ∨ H1 b = none → PagG p a1 a2 Od b ∨ H b = none := fun b z => by
      rcases z with z | z
      · exact .inl (.inr (.inr (.inr z)))
      · exact .inr (kk1.free z id)
    walk_at "rd"
    refine wfor Wk.list (fun i σ H' => ∃ u Od', σ = [some (.ref p), u] ∧ (pwrites ((grp s.com).take i) s.dev).2 = true ∧ PagA c O Od' H' p q dx a1 a2 k1 k2 { s with dev := (pwrites ((grp s.com).take i) s.dev).1 } ∧ Stp Od Od' H1 H' ∧ Kp (PagG p a1 a2 Od) H H')
      ⟨none, Od, rfl, rfl, D1, Stp.refl _ _, kk1.mono fun _ z => z.elim⟩ (fun i σ H' ⟨_, _, _, _, _, t, _⟩ => SqL.of (t.kp.get e1 fun z => nps (.inr (.inr (.inr z))))) ?_ ?_
    · rintro i x σ H2 ex ⟨u, Od', rfl, hb, D2, t2, kk2⟩
      obtain ⟨n, en, rfl⟩ := getE' ex
      obtain ⟨ds, hds, _⟩ := mem_skeys (List.mem_of_getElem? en)
      obtain ⟨l, el, il⟩ := get_some D2.p1 hds
      have ho2 := D2.o
      have h12 := D2.h1
      obtain ⟨⟨dx2, b1, b2, b3, b4, kvs, ws, DD⟩, _⟩ := id D2.dv
      have hq := DD.o
      have tk : (grp s.com).take (i + 1) = (grp s.com).take i ++ [(n, ds)] := by rw [List.take_succ, grp_at en, hds]; rfl
      have sm := pwrites_sm ((grp s.com).take i) s.dev
      have tl : ((grp s.com).take i).length ≤ (grp s.com).length := by rw [List.length_take]; omega
      have sm4 := sm.2.2.2.1
      have sz0 : Sml (pwrites ((grp s.com).take i) s.dev).1 := ⟨by omega, by rw [sm.1]; omega, by rw [sm.2.1, sm.2.2.1]; omega, by rw [sm.1]; exact pz.z1, sm.2.2.2.2 pz.z2 fun x hx => gsz x (List.mem_of_mem_take hx)⟩
      walk_at "rd"
      refine x_dgI (.inl h12) el ?_
      walk_at "rd"
      refine ⟨q, Od', _, n, l, ds, rfl, D2.dv, SqL.of il.1, fun z => il.2.2 (.inr (.inr (.inr z))), sz0, fun H3 Od3 V3 t3 => ?_⟩
      have D3 := D2.dev V3 t3 (fr kk2)
      have kk3 : Kp (PagG p a1 a2 Od) H H3 := kk2.trans t3.kp fun b z => go b (t2.gr b z)
      have ea := pwrites_app ((grp s.com).take i) s.dev (n, ds) hb
      refine ite_bool (fun e3 => ?_) fun e3 => ?_
      · refine ⟨_, Od3, rfl, by rw [tk, ea]; exact e3, by rw [tk, ea]; exact D3, t2.trans t3, kk3⟩
      · have e : pwrites (grp s.com) s.dev = ((pwrites ((grp s.com).take i) s.dev).1, false) := by
          have q := pwrites_stop ((grp s.com).take i) ((grp s.com).drop (i + 1)) s.dev (n, ds) hb e3
          have hg := grp_at en
          rw [hds] at hg
          have hi : i < (grp s.com).length := (List.getElem?_eq_some_iff.mp hg).1
          have hbi : (grp s.com)[i] = (n, ds) := (List.getElem?_eq_some_iff.mp hg).2
          rw [← hbi, ← List.drop_eq_getElem_cons hi, List.take_append_drop] at q
          exact q
        have eq : pckpt s = ({ s with dev := (pwrites ((grp s.com).take i) s.dev).1 }, false) := by
          unfold pckpt; rw [e]; rfl
        rw [dWrite_no e3] at D3
        exact k.no eq (D3.clo eO) (Stp.nO kk3 og)
    · rintro σ H2 ⟨u, Od', rfl, hb, D2, t2, kk2⟩
      rw [List.length_map, skeys_len, ← lgr, List.take_length] at hb D2
      generalize hr1 : pwrites (grp s.com) s.dev = r1 at hb D2
      have sm := pwrites_sm (grp s.com) s.dev
      rw [hr1] at sm
      have sm4 := sm.2.2.2.1
      have eck : pckpt s = (if (andD (andD (dSyncP r1.1) (dByte none)) dSyncL).2 = true then { s with dev := (andD (andD (dSyncP r1.1) (dByte none)) dSyncL).1, com := [] } else { s with dev := (andD (andD (dSyncP r1.1) (dByte none)) dSyncL).1 }, (andD (andD (dSyncP r1.1) (dByte none)) dSyncL).2) := by
        unfold pckpt; rw [hr1, andD_yes hb]
      have sz1 : Sml r1.1 := ⟨by omega, by rw [sm.1]; omega, by rw [sm.2.1, sm.2.2.1]; omega, by rw [sm.1]; exact pz.z1, sm.2.2.2.2 pz.z2 gsz⟩
      have ho2 := D2.o
      obtain ⟨⟨dx2, b1, b2, b3, b4, kvs, ws, DD⟩, _⟩ := id D2.dv
      have hq := DD.o
      walk_at "rd"
      refine ⟨q, Od', _, rfl, D2.dv, sz1, fun H3 Od3 V3 t3 => ?_⟩
      have D3 := D2.dev V3 t3 (fr kk2)
      have kk3 : Kp (PagG p a1 a2 Od) H H3 := kk2.trans t3.kp fun b z => go b (t2.gr b z)
      have t23 := t2.trans t3
      refine ite_bool (fun e3 => ?_) fun e3 => ?_
      · rw [andD_yes e3] at eck
        have sz2 : Sml (dSyncP r1.1).1 := by
          have h1 := sz1.1; have h2 := sz1.2.1; have h3 := sz1.2.2.1
          unfold dSyncP pw; split
          · have := puts_len r1.1.writes r1.1.pages
            exact ⟨Nat.zero_le _, by show (r1.1.writes.foldl (fun l q => aput l q.1 q.2) r1.1.pages).length + 0 ≤ 2000000; omega, h3, puts_sz sz1.2.2.2.1 sz1.2.2.2.2, fun q hq => by cases hq⟩
          · exact sz1
        have sl2 : (dSyncP r1.1).1.log = r1.1.log ∧ (dSyncP r1.1).1.steps = r1.1.steps := by unfold dSyncP pw; split <;> exact ⟨rfl, rfl⟩
        have ho3 := D3.o
        obtain ⟨⟨dx3, c1, c2, c3, c4, kvs3, ws3, DD3⟩, _⟩ := id V3
        have hq3 := DD3.o
        walk_at "rd"
        refine ⟨q, Od3, _, rfl, D3.dv, sz2, fun H4 Od4 V4 t4 => ?_⟩
        have D4 := D3.dev V4 t4 (fr kk3)
        have kk4 : Kp (PagG p a1 a2 Od) H H4 := kk3.trans t4.kp fun b z => go b (t23.gr b z)
        have t24 := t23.trans t4
        refine ite_bool (fun e4 => ?_) fun e4 => ?_
        · rw [andD_yes e4] at eck
          have sz3 : Sml (dByte none (dSyncP r1.1).1).1 := by
            unfold dByte pw; split
            · refine ⟨sz2.1, sz2.2.1, ?_, sz2.2.2.2⟩
              show (dSyncP r1.1).1.log.length + ((dSyncP r1.1).1.steps ++ [none]).length ≤ 8000000
              rw [sl2.1, sl2.2, List.length_append, sm.2.1, sm.2.2.1]
              show _ + (_ + 1) ≤ _
              omega
            · exact sz2
          have ho4 := D4.o
          obtain ⟨⟨dx4, f1, f2, f3, f4, kvs4, ws4, DD4⟩, _⟩ := id V4
          have hq4 := DD4.o
          walk_at "rd"
          refine ⟨q, Od4, _, rfl, D4.dv, sz3, fun H5 Od5 V5 t5 => ?_⟩
          have D5 := D4.dev V5 t5 (fr kk4)
          have kk5 : Kp (PagG p a1 a2 Od) H H5 := kk4.trans t5.kp fun b z => go b (t24.gr b z)
          refine ite_bool (fun e5 => ?_) fun e5 => ?_
          · rw [if_pos e5, e5] at eck
            have ho5 := D5.o
            walk_at "rd"
            refine x_dnew fun e' H8 he' k8 e8 => ?_
            have ho8 := k8.get ho5 id
            walk_at "rd"
            intro H9 p9 k9
            have kz : Kp (F1 p) H5 H9 := (k8.mono fun _ z => z.elim).trans k9 fun _ z => .inl z
            have D9 := D5.new1 he' kz p9 (k9.get e8 (ne_of_none ho5 he').symm) (fr kk5 _ he')
            exact k.yes eck (D9.clo eO) (Stp.nO (kk5.trans kz fun _ z => .inl (.inl z)) og)
          · rw [if_neg (by rw [e5]; exact Bool.false_ne_true), e5] at eck
            exact k.no eck (D5.clo eO) (Stp.nO kk5 og)
        · rw [andD_no e4, if_neg (by rw [e4]; exact Bool.false_ne_true), e4] at eck
          exact k.no eck (D4.clo eO) (Stp.nO kk4 og)
      · rw [andD_no (f := dByte none) e3, andD_no e3, if_neg (by rw [e3]; exact Bool.false_ne_true), e3] at eck
        exact k.no eck (D3.clo eO) (Stp.nO kk3 og)
end
/-- the pages that the groups of a log hold -/
def puts (m : List (Int × List Int)) (g : List (Int × List Int)) : List (Int × List Int) := g.foldl (fun l q => aput l q.1 q.2) m
def pini0 (gs : List (List (Int × List Int))) (d : DevS) : PgS := { dev := d, com := gs.foldl puts [], dir := [] }
def pini1 (gs : List (List (Int × List Int))) (d : DevS) : PgS × Bool := if 0 < (clog d).length then pckpt (pini0 gs d) else (pini0 gs d, true)
def pinit (gs : List (List (Int × List Int))) (d : DevS) : PgS × Bool := if (pini1 gs d).2 = true then (cnth (pini1 gs d).1, true) else pini1 gs d
section
variable {P : Program} {w : World} {K : PySem.W.Frag} {mg : Str → Option Value} {base : Heap} {c : Cl}
theorem pini1_dir (gs : List (List (Int × List Int))) (d : DevS) : (pini1 gs d).1.dir = [] := by
  unfold pini1 pckpt
  split
  · dsimp only; split <;> rfl
  · rfl
def sp_Pager_init (c : Cl) : Sp := fun vs H Q E => ∃ (p dx q : Addr) (Od : Addr → Prop) (d : DevS) (gs : List (List (Int × List Int))) (more : List (Int × List Int)) (j : Nat), vs = [.ref p, .ref q] ∧ H p = some (.ins c.Pager dx []) ∧ DevAt c H q Od d ∧ ¬ Od p ∧
  clog d = gs.flatMap wg ++ (wg more).take j ∧ j < (wg more).length ∧ (∀ g ∈ gs, Good g) ∧ Good more ∧ gs.length ≤ 1000 ∧ CkZ (pini0 gs d) ∧ ((pini1 gs d).2 = true → (gpg (pini1 gs d).1 0).length = 256) ∧
  spP c H p q (fun b => b = p ∨ Od b) (pinit gs d) (Q .non) E
theorem mk_Pager (T : Txt K mg c) : GC P w K mg base (L2.CX P w) 6 "Pager" c.Pager (sp_Pager_init c) := by
  obtain ⟨f, fd, F, gf, gi⟩ := T.f_Pager___init__
  have tc_Device := T.cl_Device; have tn_Device_pages := T.n_Device_pages; have tn_Device_page_writes := T.n_Device_page_writes; have tn_Device_durable_log := T.n_Device_durable_log; have tn_Device_log_steps := T.n_Device_log_steps; have tn_Device_done := T.n_Device_done; have tn_Device_most := T.n_Device_most
  have tc_Pager := T.cl_Pager; have tn_Pager_device := T.n_Pager_device; have tn_Pager_committed := T.n_Pager_committed; have tn_Pager_dirty := T.n_Pager_dirty
  refine ⟨f, fd, ["self", "device"], F.okX sc_Pager___init__ ?_ (fun cdv A outer s0 H vs Q E hr h => ?_), ⟨T.mk_Pager.1, gf, gi, T.mk_Pager.2⟩, T.mg_Pager, (F.binds (ps := ["self", "device"]) fun _ _ _ _ _ _ us hl => match us, hl with | [_, _], _ => rfl)⟩
  · rintro vs H Q E ⟨_, _, _, _, _, _, _, _, rfl, _⟩
    rfl
  · obtain ⟨p, dx, q, Od, d, gs, more, j, rfl, hp, hd, nop, elog, hj, hgs, hm, lgs, pz, hpg, k⟩ := h
    refine ⟨_, (pss_cons (ps_fld (pv 0) (pv 1) rfl)
      (pss_cons (ps_fld (pv 0) pe_dnewK rfl)
      (pss_cons (ps_fld (pv 0) pe_dnewK rfl)
      (pss_cons (ps_set (i := 2) sc_Pager___init__.nd rfl (Or.inl rfl) (pe_gm0 T.cl_Device (ok_Device_log T) (pv 1) (hr.mono (by decide)) pass0S))
      (pss_cons (ps_for (passes_of rfl) rfl (pi_listK rfl (pe_g (ok_read_groups T) (hr.mono (by decide)) pass0S (pa_cons (pv 2) pa_nil))) (pg_name (i := 3) sc_Pager___init__.nd rfl (Or.inl rfl)) (pss_one (ps_for (passes_of rfl) rfl (pi_listK rfl (pv 3)) (pg_kT rfl (pg_tup (n := 2) rfl (pgs_cons (pg_name (i := 4) sc_Pager___init__.nd rfl (Or.inl rfl)) (pgs_cons (pg_name (i := 5) sc_Pager___init__.nd rfl (Or.inl rfl)) pgs_nil)))) (pss_one (ps_dput (hu_of hr) (pe_fldK rfl (pv 0)) (pv 4) (pv 5) rfl)))))
      (C8.pss_cut (ps_if (pt_cmpR op_gt (pe_callB (r := rLenQ K) c_len (by rfl) T.z_len PySem.boot_len (pa_cons (pv 2) pa_nil)) pe_int (nomark _)) (pss_one (ps_expr (pe_gm0 T.cl_Pager (ok_Pager_checkpoint T) (pv 0) (hr.mono (by decide)) (passE (E := E) rfl rfl rfl rfl)))) pss_nil)
      (pss_one (ps_expr (pe_gm0 T.cl_Pager (ok_Pager_count_head T) (pv 0) (hr.mono (by decide)) pass0S))))))))), ?_⟩
    walk_at "cx"
    walk_at "rd"
    intro H1 p1 k1
    walk_at "rd"
    refine x_dnew fun a1 H2 ha1 k2 e1 => ?_
    have n1 : p ≠ a1 := ne_of_none p1 ha1
    walk_at "rd"
    intro H3 p3 k3
    have e13 := k3.get e1 n1.symm
    walk_at "rd"
    refine x_dnew fun a2 H4 ha2 k4 e2 => ?_
    have n2 : p ≠ a2 := ne_of_none p3 ha2
    have n12 : a1 ≠ a2 := ne_of_none e13 ha2
    walk_at "rd"
    intro H5 p5 k5
    have e15 := k5.get (k4.get e13 id) n1.symm
    have e25 := k5.get e2 n2.symm
    have k13 : Kp (F1 p) H H3 := ((k1.trans k2 fun _ z => z.elim).trans k3 fun _ z => .inl z)
    have k05 : Kp (F1 p) H H5 := (k13.trans k4 fun _ z => z.elim).trans k5 fun _ z => .inl z
    have fa1 : H a1 = none := k1.free ha1 n1.symm
    have fa2 : H a2 = none := k13.free ha2 n2.symm
    have V5 := hd.off k05 fun b z o => nop (by rw [← z]; exact o)
    obtain ⟨⟨dx2, b1, b2, b3, b4, kvs, ws, DD⟩, _⟩ := id V5
    have hq := DD.o
    generalize eO : (fun x => (x = p ∨ Od x) ∨ H x = none) = O
    have D5 : PagA c O Od H5 p q dx a1 a2 [] [] { dev := d, com := [], dir := [] } := by
      refine ⟨p5, V5, e15, .nil, e25, .nil, n12, nop, fun z => hd.fresh fa1 z, fun z => hd.fresh fa2 z, fun b z => ?_⟩
      rw [← eO]
      rcases z with z | z | z | z
      · exact .inl (.inl z)
      · rw [z]; exact .inr fa1
      · rw [z]; exact .inr fa2
      · exact .inl (.inr z)
    have pzw := pz.w; have pzp := pz.p; have pzl := pz.l
    have smd : Sml d := ⟨by show (pini0 gs d).dev.writes.length ≤ _; omega, by show (pini0 gs d).dev.pages.length + (pini0 gs d).dev.writes.length ≤ _; omega, by show (pini0 gs d).dev.log.length + (pini0 gs d).dev.steps.length ≤ _; omega, pz.z1, pz.z2⟩
    walk_at "rd"
    refine ⟨q, Od, d, rfl, V5, smd, fun lg H6 hlg k6 e6 => ?_⟩
    walk_at "rd"
    refine ⟨lg, clog d, gs, more, j, rfl, SqL.of e6, elog, hj, hgs, hm, by omega, fun r H7 hr7 k7 hr => ?_⟩
    have D6 := D5.same k6
    have D7 := D6.same k7
    have e67 := k7.get e6 id
    obtain ⟨vs, er, or, hv⟩ := id hr
    have k06 : Kp (F1 p) H H6 := k05.trans k6 fun _ z => z.elim
    have k07 : Kp (F1 p) H H7 := k06.trans k7 fun _ z => z.elim
    have na1 : ∀ b, H6 b = none → b ≠ a1 := fun b hb z => by
      have := D6.h1
      rw [← z, hb] at this; cases this
    walk_at "rd"
    refine wfor Wk.list (fun i σ H' => ∃ k1' u3 u4 u5, σ = [some (.ref p), some (.ref q), some (.ref lg), u3, u4, u5] ∧ PagA c O Od H' p q dx a1 a2 k1' [] { dev := d, com := (gs.take i).foldl puts [], dir := [] } ∧ k1'.length ≤ 60 * i ∧ Kp (F1 a1) H7 H')
      ⟨[], none, none, none, rfl, D7, Nat.le_refl _, Kp.refl _⟩ (fun i σ H' ⟨_, _, _, _, _, _, _, kk⟩ => SqL.of (kk.get er (na1 _ or))) ?_ ?_
    · rintro i x σ H8 ex ⟨k1', u3, u4, u5, rfl, D8, l8, kk8⟩
      obtain ⟨g, eg, hg⟩ := pgt hv ex
      have gg := hgs g (List.mem_of_getElem? eg)
      obtain ⟨a, ws2, rfl, ha, oa, hw⟩ := hg.kp kk8 fun b _ _ o => na1 b o
      walk_at "rd"
      refine wfor Wk.list (fun t σ H' => ∃ k1' u4 u5, σ = [some (.ref p), some (.ref q), some (.ref lg), some (.ref a), u4, u5] ∧ PagA c O Od H' p q dx a1 a2 k1' [] { dev := d, com := (g.take t).foldl (fun l q => aput l q.1 q.2) ((gs.take i).foldl puts []), dir := [] } ∧ k1'.length ≤ 60 * i + t ∧ Kp (F1 a1) H7 H' ∧ Kp (F1 a1) H8 H')
        ⟨k1', u4, u5, rfl, D8, l8, kk8, Kp.refl _⟩ (fun i σ H' ⟨_, _, _, _, _, _, _, kk⟩ => SqL.of (kk.get ha (na1 _ oa))) ?_ ?_
      · rintro t y σ H9 ey ⟨k1'', u4, u5, rfl, D9, l9, kk9, kk89⟩
        obtain ⟨r', er', tp, l, rfl, ht, hl, ol⟩ := pgt hw ey
        have ht9 := kk89.tup ht
        have hl9 := kk89.get hl (na1 _ ol)
        have ho9 := D9.o
        have h19 := D9.h1
        have lt : t < g.length := (List.getElem?_eq_some_iff.mp er').1
        have := gg.n
        have li : i < gs.length := (List.getElem?_eq_some_iff.mp eg).1
        walk_at "rd"
        refine x_dpI h19 (by omega) fun H10 e10 k10 => ?_
        have D10 := D9.put1 (ds := r'.2) ⟨hl9, by rw [← eO]; exact .inr (k06.free ol fun z => by rw [z, D6.o] at ol; cases ol), D6.fresh ol⟩ k10 e10
        have l10 := D10.p1.length
        have l11 := aput_len ((g.take t).foldl (fun l q => aput l q.1 q.2) ((gs.take i).foldl puts [])) r'.1 r'.2
        have l12 := D9.p1.length
        refine ⟨putK k1'' (.inl r'.1) (.ref l), some (.int r'.1), some (.ref l), rfl, ?_, ?_, kk9.trans k10 fun _ z => .inl z, kk89.trans k10 fun _ z => .inl z⟩
        · rw [List.take_succ, er', List.foldl_append]
          exact D10
        · rw [l10]
          refine Nat.le_trans l11 ?_
          rw [← show k1''.length = _ from l12]
          omega
      · rintro σ H9 ⟨k1'', u4, u5, rfl, D9, l9, kk9, kk89⟩
        rw [show ws2.length = g.length from hw.length] at D9 l9
        rw [List.take_length] at D9
        refine ⟨k1'', some (.ref a), u4, u5, rfl, ?_, by have := gg.n; omega, kk9⟩
        rw [List.take_succ, eg, List.foldl_append]
        exact D9
    · rintro σ H8 ⟨k1', u3, u4, u5, rfl, D8, l8, kk8⟩
      rw [show vs.length = gs.length from hv.length, List.take_length] at D8
      have e68 := kk8.get e67 (fun z => by
        have := D7.h1
        rw [← z, e67] at this; cases this)
      have k08 : Kp (fun b => b = p ∨ Od b) H H8 := (k07.mono fun _ z => .inl (.inl z)).trans kk8 fun x z => .inr (by rw [z]; exact fa1)
      have P8 : PagAt c H8 p q (nO (fun b => b = p ∨ Od b) H H8) Od (pini0 gs d) := D8.clo eO.symm
      have S8 : Stp (fun b => b = p ∨ Od b) (nO (fun b => b = p ∨ Od b) H H8) H H8 := Stp.nO k08 fun _ z => z
      have ho8 := D8.o
      walk_at "rd"
      refine x_cut (fun σ' H' => ∃ O' Od' u3 u4 u5, σ' = [some (.ref p), some (.ref q), some (.ref lg), u3, u4, u5] ∧ (pini1 gs d).2 = true ∧ PagAt c H' p q O' Od' (pini1 gs d).1 ∧ Stp (fun b => b = p ∨ Od b) O' H H') ?_ ?_
      · walk_at "rd"
        rw [List.length_map]
        refine ite_dec (fun e => ?_) fun e => ?_
        · have ei : pini1 gs d = pckpt (pini0 gs d) := by unfold pini1; rw [if_pos (by omega)]
          walk_at "rd"
          refine ⟨p, q, _, Od, _, rfl, P8, pz, fun H9 O9 Od9 P9 s9 => ?_⟩
          rw [← ei] at P9 ⊢
          refine ite_bool (fun e9 => ?_) fun e9 => ?_
          · exact ⟨O9, Od9, u3, u4, u5, rfl, e9, P9, S8.trans s9⟩
          · have ep : pinit gs d = ((pini1 gs d).1, false) := by unfold pinit; rw [if_neg (by rw [e9]; exact Bool.false_ne_true)]; rw [← e9]
            exact k.no ep P9 (S8.trans s9)
        · have ei : pini1 gs d = (pini0 gs d, true) := by unfold pini1; rw [if_neg (by omega)]
          exact ⟨_, Od, u3, u4, u5, rfl, by rw [ei], by rw [ei]; exact P8, S8⟩
      · rintro σ' H9 ⟨O9, Od9, u3, u4, u5, rfl, e9, P9, s9⟩
        obtain ⟨⟨dx, a1, a2, k1, k2, D9⟩, _⟩ := id P9
        have ho9 := D9.o
        have ep : pinit gs d = (cnth (pini1 gs d).1, true) := by unfold pinit; rw [if_pos e9]
        walk_at "rd"
        refine ⟨p, q, O9, Od9, _, rfl, P9, by rw [pini1_dir]; exact Nat.zero_le _, hpg e9, fun H10 O10 P10 s10 => ?_⟩
        exact k.yes ep P10 (s9.trans s10)
end
/-! ### views of a pager, in plain Lean -/
def vf (v : Int → List Int) (k : Nat) : Int := rn (((v 0).drop (4 * k)).take 4)
def vput (v : Int → List Int) (n : Int) (ds : List Int) : Int → List Int := fun m => if m = n then ds else v m
def vset (v : Int → List Int) (k : Nat) (x : Int) : Int → List Int := vput v 0 (spl (v 0) k x)
def vcn (v : Int → List Int) : Int → List Int := if vf v 6 = 0 then vset v 6 1 else v
theorem fld_vf (s : PgS) (k : Nat) : fld s k = vf (gpg s) k := rfl
theorem gpg_pwr (s : PgS) (n : Int) (ds : List Int) : gpg (pwr n ds s) = vput (gpg s) n ds := by
  funext m; unfold vput
  by_cases e : m = n
  · rw [if_pos e, e, gpg_eq]
  · rw [if_neg e, gpg_ne _ _ e]
theorem gpg_set (s : PgS) (k : Nat) (x : Int) : gpg (setf k x s) = vset (gpg s) k x := gpg_pwr _ _ _
theorem gpg_cnth (s : PgS) : gpg (cnth s) = vcn (gpg s) := by
  unfold cnth vcn; rw [fld_vf]
  split
  · exact gpg_set _ _ _
  · rfl
theorem spl_fld {ds : List Int} {k j : Nat} {x : Int} (h0 : 0 ≤ x) (h1 : x < 256 ^ 4) (hk : 4 * (k + 1) ≤ ds.length) :
    rn (((spl ds k x).drop (4 * j)).take 4) = if j = k then x else rn ((ds.drop (4 * j)).take 4) := by
  have l1 : (ds.take (4 * k)).length = 4 * k := by rw [List.length_take]; omega
  have l2 : (ds.take (4 * k) ++ wn 4 x).length = 4 * (k + 1) := by rw [List.length_append, l1, wn_len]; omega
  by_cases e : j = k
  · subst e
    rw [if_pos rfl]
    unfold spl
    rw [List.append_assoc, List.drop_left' l1, List.take_left' (wn_len 4 x), rn_wn 4 x h0 h1]
  · rw [if_neg e]
    congr 1
    unfold spl
    by_cases q : j < k
    · rw [List.append_assoc, List.drop_append_of_le_length (by omega), List.take_append_of_le_length (by rw [List.length_drop]; omega), List.drop_take, List.take_take, show min 4 (4 * k - 4 * j) = 4 by omega]
    · rw [List.drop_append, List.drop_eq_nil_of_le (by omega), List.nil_append, l2, List.drop_drop, show 4 * (k + 1) + (4 * j - 4 * (k + 1)) = 4 * j by omega]
theorem vset_vf {v : Int → List Int} {k j : Nat} {x : Int} (h0 : 0 ≤ x) (h1 : x < 256 ^ 4) (hk : 4 * (k + 1) ≤ (v 0).length) : vf (vset v k x) j = if j = k then x else vf v j := by
  unfold vf vset vput
  rw [if_pos rfl]
  exact spl_fld h0 h1 hk
theorem vset_ne (v : Int → List Int) (k : Nat) (x : Int) {n : Int} (h : n ≠ 0) : vset v k x n = v n := if_neg h
theorem vput_vf (v : Int → List Int) {n : Int} (ds : List Int) (h : n ≠ 0) (k : Nat) : vf (vput v n ds) k = vf v k := by
  unfold vf vput; rw [if_neg (Ne.symm h)]
theorem vput_ne (v : Int → List Int) {n m : Int} (ds : List Int) (h : m ≠ n) : vput v n ds m = v m := if_neg h
theorem vput_eq (v : Int → List Int) (n : Int) (ds : List Int) : vput v n ds n = ds := if_pos rfl
/-- the law's model -/
structure LM where
  pgs : List (Int × List Int)
  many : Int
  free : List Int
  taken : List Int
def Chain (f : Int → Int) : Int → List Int → Prop
  | h, [] => h = 0
  | h, n :: r => h = n ∧ Chain f (f n) r
theorem Chain.mono {f g : Int → Int} : ∀ {l : List Int} {h : Int}, (∀ n ∈ l, f n = g n) → Chain f h l → Chain g h l
  | [], _, _, c => c
  | n :: r, _, e, c => ⟨c.1, by rw [← e n (by simp)]; exact Chain.mono (fun m hm => e m (List.mem_cons_of_mem _ hm)) c.2⟩
theorem Chain.head {f : Int → Int} {h : Int} : ∀ {l : List Int}, Chain f h l → h = (l ++ [0]).headD 0
  | [], c => c
  | _ :: _, c => c.1
structure Rel (i : Nat) (v : Int → List Int) (M : LM) : Prop where
  z : ∀ n, (v n).length = 256
  many : vf v 6 = M.many
  chain : Chain (fun n => rn ((v n).take 4)) (vf v 7) M.free
  head : aget M.pgs 0 = some [vf v 3]
  tk : ∀ n ∈ M.taken, aget M.pgs n = some (v n)
  nd : (M.free ++ M.taken).Nodup
  rg : ∀ n ∈ M.free ++ M.taken, 1 ≤ n ∧ n < M.many
  m1 : 1 ≤ M.many
  mb : M.many ≤ 1 + i
  pl : M.pgs.length ≤ 1 + 2 * i
  fl : M.free.length + M.taken.length ≤ i
theorem Rel.up {i : Nat} {v : Int → List Int} {M : LM} (h : Rel i v M) : Rel (i + 1) v M :=
  ⟨h.z, h.many, h.chain, h.head, h.tk, h.nd, h.rg, h.m1, by have := h.mb; omega, by have := h.pl; omega, by have := h.fl; omega⟩
theorem Rel.ne0 {i : Nat} {v : Int → List Int} {M : LM} (h : Rel i v M) {n : Int} (hn : n ∈ M.free ++ M.taken) : n ≠ 0 := by have := (h.rg n hn).1; omega
/-- field 3 is set -/
theorem Rel.three {i : Nat} {v : Int → List Int} {M : LM} {x : Int} (h : Rel i v M) (h0 : 0 ≤ x) (h1 : x < 256 ^ 4) : Rel (i + 1) (vset v 3 x) { M with pgs := aput M.pgs 0 [x] } := by
  have hz : 4 * (3 + 1) ≤ (v 0).length := by rw [h.z]; decide
  have f : ∀ j, vf (vset v 3 x) j = if j = 3 then x else vf v j := fun j => vset_vf h0 h1 hz
  refine ⟨fun n => ?_, ?_, ?_, ?_, fun n hn => ?_, h.nd, h.rg, h.m1, h.up.mb, ?_, h.up.fl⟩
  · by_cases e : n = 0
    · subst e; unfold vset; rw [vput_eq, spl_len hz]; exact h.z 0
    · rw [vset_ne _ _ _ e]; exact h.z n
  · rw [f]; exact h.many
  · rw [f]
    exact h.chain.mono fun n hn => by
      show rn ((v n).take 4) = rn ((vset v 3 x n).take 4)
      rw [vset_ne _ _ _ (h.ne0 (List.mem_append.mpr (.inl hn)))]
  · rw [f]; exact aget_put_eq _ _ _
  · rw [aget_put_ne _ _ (h.ne0 (List.mem_append.mpr (.inr hn))), vset_ne _ _ _ (h.ne0 (List.mem_append.mpr (.inr hn)))]
    exact h.tk n hn
  · have := aput_len M.pgs 0 [x]; have := h.pl; show (aput M.pgs 0 [x]).length ≤ _; omega
/-- a taken page is written -/
theorem Rel.write {i : Nat} {v : Int → List Int} {M : LM} {n : Int} {ds : List Int} (h : Rel i v M) (hn : n ∈ M.taken) (hl : ds.length = 256) : Rel (i + 1) (vput v n ds) { M with pgs := aput M.pgs n ds } := by
  have n0 := h.ne0 (List.mem_append.mpr (.inr hn))
  have dis : ∀ m ∈ M.free, m ≠ n := fun m hm e => by
    subst e
    exact (List.nodup_append.mp h.nd).2.2 m hm m hn rfl
  refine ⟨fun m => ?_, ?_, ?_, ?_, fun m hm => ?_, h.nd, h.rg, h.m1, h.up.mb, ?_, h.up.fl⟩
  · unfold vput; split
    · exact hl
    · exact h.z m
  · rw [vput_vf _ _ n0]; exact h.many
  · rw [vput_vf _ _ n0]
    exact h.chain.mono fun m hm => by
      show rn ((v m).take 4) = rn ((vput v n ds m).take 4)
      rw [vput_ne _ _ (dis m hm)]
  · rw [vput_vf _ _ n0, aget_put_ne _ _ n0.symm]; exact h.head
  · by_cases e : m = n
    · subst e; rw [aget_put_eq, vput_eq]
    · rw [aget_put_ne _ _ e, vput_ne _ _ e]; exact h.tk m hm
  · have := aput_len M.pgs n ds; have := h.pl; show (aput M.pgs n ds).length ≤ _; omega
theorem zeros_len : zeros.length = 256 := by unfold zeros; rw [List.length_replicate]
/-- a new page -/
theorem Rel.grow {i : Nat} {v : Int → List Int} {M : LM} (h : Rel i v M) (hf : M.free = []) (hi : i ≤ 1000) : Rel (i + 1) (vput (vset v 6 (vf v 6 + 1)) (vf v 6) zeros) { pgs := aput M.pgs M.many zeros, many := M.many + 1, free := [], taken := M.taken ++ [M.many] } := by
  have hz : 4 * (6 + 1) ≤ (v 0).length := by rw [h.z]; decide
  have m1 := h.m1; have mb := h.mb
  rw [h.many]
  have n0 : M.many ≠ 0 := by omega
  have f : ∀ j, vf (vput (vset v 6 (M.many + 1)) M.many zeros) j = if j = 6 then M.many + 1 else vf v j := fun j => by
    rw [vput_vf _ _ n0]; exact vset_vf (by omega) (by omega) hz
  have nd := h.nd
  rw [hf, List.nil_append] at nd
  have rg := h.rg
  rw [hf, List.nil_append] at rg
  refine ⟨fun n => ?_, ?_, ?_, ?_, fun n hn => ?_, ?_, fun n hn => ?_, by show (1 : Int) ≤ M.many + 1; omega, by show M.many + 1 ≤ 1 + ((i + 1 : Nat) : Int); omega, ?_, ?_⟩
  · unfold vput; split
    · exact zeros_len
    · unfold vset vput; split
      · rw [spl_len hz]; exact h.z 0
      · exact h.z n
  · rw [f, if_pos rfl]
  · rw [f]
    have := h.chain
    rw [hf] at this
    exact this
  · rw [f]; show aget (aput M.pgs M.many zeros) 0 = _; rw [aget_put_ne _ _ n0.symm]; exact h.head
  · show aget (aput M.pgs M.many zeros) n = _
    rcases List.mem_append.mp hn with hn | hn
    · have := rg n hn
      rw [aget_put_ne _ _ (by omega), vput_ne _ _ (by omega), vset_ne _ _ _ (by omega)]; exact h.tk n hn
    · rw [List.mem_singleton.mp hn, aget_put_eq, vput_eq]
  · show (([] : List Int) ++ (M.taken ++ [M.many])).Nodup
    rw [List.nil_append, List.nodup_append]
    refine ⟨nd, by simp, fun a ha b hb => ?_⟩
    rw [List.mem_singleton.mp hb]
    have := rg a ha
    omega
  · have hn : n ∈ M.taken ++ [M.many] := hn
    show 1 ≤ n ∧ n < M.many + 1
    rcases List.mem_append.mp hn with hn | hn
    · have := rg n hn; omega
    · rw [List.mem_singleton.mp hn]; omega
  · have := aput_len M.pgs M.many zeros; have := h.pl; show (aput M.pgs M.many zeros).length ≤ _; omega
  · have := h.fl; rw [hf] at this
    show 0 + (M.taken ++ [M.many]).length ≤ i + 1
    rw [List.length_append]; simp only [List.length_nil, List.length_singleton] at *; omega
/-- the first free page -/
theorem Rel.reuse {i : Nat} {v : Int → List Int} {M : LM} {n : Int} {r : List Int} (h : Rel i v M) (hf : M.free = n :: r) (hi : i ≤ 1000) :
    vf v 7 = n ∧ n ≠ 0 ∧ Rel (i + 1) (vput (vset v 7 (rn ((v n).take 4))) n zeros) { pgs := aput M.pgs n zeros, many := M.many, free := r, taken := M.taken ++ [n] } := by
  have hz : 4 * (7 + 1) ≤ (v 0).length := by rw [h.z]; decide
  have m1 := h.m1; have mb := h.mb
  have c := h.chain
  rw [hf] at c
  have nd := h.nd
  rw [hf] at nd
  have rg := h.rg
  rw [hf] at rg
  have n0 : n ≠ 0 := by have := (rg n (by simp)).1; omega
  have hx := c.2.head
  have xb : 0 ≤ rn ((v n).take 4) ∧ rn ((v n).take 4) < 256 ^ 4 := by
    show 0 ≤ (fun n => rn ((v n).take 4)) n ∧ (fun n => rn ((v n).take 4)) n < 256 ^ 4
    rw [hx]
    cases r with
    | nil => exact ⟨by decide, by decide⟩
    | cons y r => have := rg y (by simp); show 0 ≤ y ∧ y < 256 ^ 4; omega
  have f : ∀ j, vf (vput (vset v 7 (rn ((v n).take 4))) n zeros) j = if j = 7 then rn ((v n).take 4) else vf v j := fun j => by
    rw [vput_vf _ _ n0]; exact vset_vf xb.1 xb.2 hz
  have dis : ∀ m ∈ r, m ≠ n := fun m hm e => by
    subst e
    rw [List.cons_append, List.nodup_cons] at nd
    exact nd.1 (List.mem_append.mpr (.inl hm))
  have dis2 : ∀ m ∈ M.taken, m ≠ n := fun m hm e => by
    subst e
    rw [List.cons_append, List.nodup_cons] at nd
    exact nd.1 (List.mem_append.mpr (.inr hm))
  refine ⟨c.1, n0, fun m => ?_, ?_, ?_, ?_, fun m hm => ?_, ?_, fun m hm => ?_, m1, h.up.mb, ?_, ?_⟩
  · unfold vput; split
    · exact zeros_len
    · unfold vset vput; split
      · rw [spl_len hz]; exact h.z 0
      · exact h.z m
  · rw [f]; exact h.many
  · rw [f, if_pos rfl]
    exact c.2.mono fun m hm => by
      have m0 := (rg m (by simp [hm])).1
      show rn ((v m).take 4) = rn ((vput (vset v 7 (rn ((v n).take 4))) n zeros m).take 4)
      rw [vput_ne _ _ (dis m hm), vset_ne _ _ _ (by omega)]
  · rw [f]; show aget (aput M.pgs n zeros) 0 = _; rw [aget_put_ne _ _ n0.symm]; exact h.head
  · show aget (aput M.pgs n zeros) m = _
    rcases List.mem_append.mp hm with hm | hm
    · have m0 := (rg m (by simp [hm])).1
      rw [aget_put_ne _ _ (dis2 m hm), vput_ne _ _ (dis2 m hm), vset_ne _ _ _ (by omega)]; exact h.tk m hm
    · rw [List.mem_singleton.mp hm, aget_put_eq, vput_eq]
  · show (r ++ (M.taken ++ [n])).Nodup
    have p : (r ++ (M.taken ++ [n])).Perm (n :: r ++ M.taken) := by
      rw [← List.append_assoc]; exact List.perm_append_singleton n (r ++ M.taken)
    exact p.nodup_iff.mpr nd
  · have hm : m ∈ r ++ (M.taken ++ [n]) := hm
    refine rg m ?_
    simp only [List.mem_append, List.mem_cons, List.mem_singleton, List.not_mem_nil, or_false] at hm ⊢
    rcases hm with q | q | q
    · exact .inl (.inr q)
    · exact .inr q
    · exact .inl (.inl q)
  · have := aput_len M.pgs n zeros; have := h.pl; show (aput M.pgs n zeros).length ≤ _; omega
  · have q : (n :: r).length + M.taken.length ≤ i := by rw [← hf]; exact h.fl
    rw [List.length_cons] at q
    show r.length + (M.taken ++ [n]).length ≤ i + 1
    rw [List.length_append, List.length_singleton]; omega
theorem erase_perm : ∀ {l : List Int} {j : Nat} {n : Int}, l[j]? = some n → (n :: l.eraseIdx j).Perm l
  | x :: l, 0, n, h => by
    simp only [List.getElem?_cons_zero, Option.some.injEq] at h
    subst h
    exact List.Perm.refl _
  | x :: l, j + 1, n, h => by
    rw [List.getElem?_cons_succ] at h
    exact (List.Perm.swap x n _).trans ((erase_perm h).cons x)
  | [], _, _, h => by simp at h
/-- a taken page is released -/
theorem Rel.rel {i : Nat} {v : Int → List Int} {M : LM} {n : Int} {j : Nat} (h : Rel i v M) (hn : M.taken[j]? = some n) (hi : i ≤ 1000) :
    Rel (i + 1) (vset (vput v n (wn 4 (vf v 7) ++ List.replicate 252 0)) 7 n) { M with free := n :: M.free, taken := M.taken.eraseIdx j } := by
  have m1 := h.m1; have mb := h.mb
  have hm := List.mem_of_getElem? hn
  have rn' := h.rg n (List.mem_append.mpr (.inr hm))
  have n0 : n ≠ 0 := by omega
  have lw : (wn 4 (vf v 7) ++ List.replicate 252 (0 : Int)).length = 256 := by rw [List.length_append, wn_len, List.length_replicate]
  have v0 : vput v n (wn 4 (vf v 7) ++ List.replicate 252 0) 0 = v 0 := vput_ne _ _ n0.symm
  have hz : 4 * (7 + 1) ≤ (vput v n (wn 4 (vf v 7) ++ List.replicate 252 0) 0).length := by rw [v0, h.z]; decide
  have f : ∀ j, vf (vset (vput v n (wn 4 (vf v 7) ++ List.replicate 252 0)) 7 n) j = if j = 7 then n else vf v j := fun j => by
    rw [vset_vf (by omega) (by omega) hz, vput_vf _ _ n0]
  have x7 : 0 ≤ vf v 7 ∧ vf v 7 < 256 ^ 4 := by
    have c := h.chain.head
    rw [c]
    cases e : M.free with
    | nil => exact ⟨by decide, by decide⟩
    | cons y r => have := h.rg y (by rw [e]; simp); show 0 ≤ y ∧ y < 256 ^ 4; omega
  have hj : j < M.taken.length := (List.getElem?_eq_some_iff.mp hn).1
  have hg : M.taken[j] = n := (List.getElem?_eq_some_iff.mp hn).2
  have pt : (n :: M.taken.eraseIdx j).Perm M.taken := erase_perm hn
  have p : (n :: M.free ++ M.taken.eraseIdx j).Perm (M.free ++ M.taken) := (List.perm_middle.symm).trans (List.Perm.append_left _ pt)
  have nd' : (n :: M.free ++ M.taken.eraseIdx j).Nodup := p.nodup_iff.mpr h.nd
  have ni : n ∉ M.free ++ M.taken.eraseIdx j := by rw [List.cons_append, List.nodup_cons] at nd'; exact nd'.1
  refine ⟨fun m => ?_, ?_, ?_, ?_, fun m hm' => ?_, nd', fun m hm' => h.rg m (p.mem_iff.mp hm'), m1, h.up.mb, h.up.pl, ?_⟩
  · unfold vset
    by_cases e : m = 0
    · subst e; rw [vput_eq, spl_len hz, v0]; exact h.z 0
    · rw [vput_ne _ _ e]; unfold vput; split
      · exact lw
      · exact h.z m
  · rw [f]; exact h.many
  · rw [f, if_pos rfl]
    refine ⟨rfl, ?_⟩
    have e : rn ((vset (vput v n (wn 4 (vf v 7) ++ List.replicate 252 0)) 7 n n).take 4) = vf v 7 := by
      rw [vset_ne _ _ _ n0, vput_eq, List.take_left' (wn_len 4 _)]
      exact rn_wn 4 _ x7.1 x7.2
    show Chain _ (rn ((vset (vput v n (wn 4 (vf v 7) ++ List.replicate 252 0)) 7 n n).take 4)) M.free
    rw [e]
    exact h.chain.mono fun m hm' => by
      have m0 := (h.rg m (List.mem_append.mpr (.inl hm'))).1
      have mn : m ≠ n := fun z => ni (by rw [← z]; exact List.mem_append.mpr (.inl hm'))
      show rn ((v m).take 4) = rn ((vset (vput v n (wn 4 (vf v 7) ++ List.replicate 252 0)) 7 n m).take 4)
      rw [vset_ne _ _ _ (by omega), vput_ne _ _ mn]
  · rw [f]; exact h.head
  · have hm2 : m ∈ M.taken := List.mem_of_mem_eraseIdx hm'
    have m0 := (h.rg m (List.mem_append.mpr (.inr hm2))).1
    have mn : m ≠ n := fun z => ni (by rw [← z]; exact List.mem_append.mpr (.inr hm'))
    rw [vset_ne _ _ _ (by omega), vput_ne _ _ mn]
    exact h.tk m hm2
  · have := h.fl
    show (n :: M.free).length + (M.taken.eraseIdx j).length ≤ i + 1
    rw [List.length_eraseIdx_of_lt hj, List.length_cons]; omega
/-! ### a pager whose device has power without end -/
def Zc (l : List (Int × List Int)) : Prop := ∀ q ∈ l, q.2.length = 256
theorem aput_zc {l : List (Int × List Int)} {n : Int} {ds : List Int} (h : Zc l) (hd : ds.length = 256) : Zc (aput l n ds) := by
  intro q hq
  unfold aput at hq
  split at hq
  · obtain ⟨r, hr, rfl⟩ := List.mem_map.mp hq
    split
    · exact hd
    · exact h r hr
  · rcases List.mem_append.mp hq with hq | hq
    · exact h q hq
    · rw [List.mem_singleton.mp hq]; exact hd
theorem aget_mem' {l : List (Int × List Int)} {n : Int} {d : List Int} (h : aget l n = some d) : (n, d) ∈ l := by
  unfold aget at h
  cases z : l.find? fun q => decide (q.1 = n) with
  | none => rw [z] at h; cases h
  | some r =>
    rw [z] at h
    have h2 := List.find?_some z
    simp only [decide_eq_true_eq] at h2
    cases h
    rw [← h2]; exact List.mem_of_find?_eq_some z
theorem aput_mem {l : List (Int × List Int)} {n : Int} {ds : List Int} {q : Int × List Int} (h : q ∈ aput l n ds) : q ∈ l ∨ q = (n, ds) := by
  unfold aput at h
  split at h
  · obtain ⟨r, hr, rfl⟩ := List.mem_map.mp h
    split
    · rename_i e; exact .inr (by rw [e])
    · exact .inl hr
  · rcases List.mem_append.mp h with h | h
    · exact .inl h
    · exact .inr (List.mem_singleton.mp h)
/-- many puts by keys -/
def kput (f : Int → List Int) (ks : List Int) (m : List (Int × List Int)) : List (Int × List Int) := ks.foldl (fun a k => aput a k (f k)) m
theorem aget_kput (f : Int → List Int) : ∀ (ks : List Int) (m : List (Int × List Int)) (n : Int), aget (kput f ks m) n = if n ∈ ks then some (f n) else aget m n
  | [], m, n => by simp [kput]
  | k :: ks, m, n => by
    show aget (kput f ks (aput m k (f k))) n = _
    rw [aget_kput f ks]
    by_cases h : n ∈ ks
    · rw [if_pos h, if_pos (List.mem_cons_of_mem _ h)]
    · rw [if_neg h]
      by_cases e : n = k
      · subst e; rw [aget_put_eq, if_pos (by simp)]
      · rw [aget_put_ne _ _ e, if_neg (by simp [e, h])]
theorem kput_len (f : Int → List Int) : ∀ (ks : List Int) (m : List (Int × List Int)), (kput f ks m).length ≤ m.length + ks.length
  | [], _ => Nat.le_refl _
  | k :: ks, m => by
    have h1 := kput_len f ks (aput m k (f k))
    have h2 := aput_len m k (f k)
    show (kput f ks (aput m k (f k))).length ≤ m.length + (ks.length + 1)
    omega
theorem kput_zc {f : Int → List Int} : ∀ {ks : List Int} {m : List (Int × List Int)}, Zc m → (∀ k ∈ ks, (f k).length = 256) → Zc (kput f ks m)
  | [], _, h, _ => h
  | k :: ks, m, h, g => kput_zc (ks := ks) (aput_zc h (g k (by simp))) fun x hx => g x (List.mem_cons_of_mem _ hx)
def fv (l : List (Int × List Int)) (n : Int) : List Int := (aget l n).getD []
theorem coms_k (l m : List (Int × List Int)) : coms l m = kput (fv l) (l.map (·.1)) m := by unfold coms kput fv; rw [List.foldl_map]
theorem puts_k (l m : List (Int × List Int)) : puts m (grp l) = kput (fv l) (skeys l) m := by unfold puts grp kput fv; rw [List.foldl_map]
theorem fv_z {l : List (Int × List Int)} (h : Zc l) {n : Int} (hn : n ∈ l.map (·.1)) : (fv l n).length = 256 := by
  obtain ⟨d, e, m⟩ := mem_skeys ((skeys_perm l).mem_iff.mpr hn)
  unfold fv; rw [e]; exact h _ m
theorem key_iff (l : List (Int × List Int)) (n : Int) : n ∈ l.map (·.1) ↔ aget l n ≠ none := by
  constructor
  · intro h z
    obtain ⟨d, e, _⟩ := mem_skeys ((skeys_perm l).mem_iff.mpr h)
    rw [z] at e; cases e
  · intro h
    cases e : aget l n with
    | none => exact absurd e h
    | some d => exact List.mem_map.mpr ⟨(n, d), aget_mem' e, rfl⟩
def orD (a b : Option (List Int)) : Option (List Int) := match a with
  | some d => some d
  | none => b
theorem aget_kf {l m : List (Int × List Int)} {ks : List Int} (h : ks.Perm (l.map (·.1))) (n : Int) : aget (kput (fv l) ks m) n = orD (aget l n) (aget m n) := by
  rw [aget_kput]
  by_cases e : n ∈ ks
  · rw [if_pos e]
    have := (key_iff l n).mp (h.mem_iff.mp e)
    cases z : aget l n with
    | none => exact absurd z this
    | some d => unfold fv; rw [z]; rfl
  · rw [if_neg e]
    cases z : aget l n with
    | none => rfl
    | some d => exact absurd (h.mem_iff.mpr ((key_iff l n).mpr (by rw [z]; exact fun y => by cases y))) e
theorem aget_coms (l m : List (Int × List Int)) (n : Int) : aget (coms l m) n = orD (aget l n) (aget m n) := by rw [coms_k]; exact aget_kf (List.Perm.refl _) n
theorem aget_pgrp (l m : List (Int × List Int)) (n : Int) : aget (puts m (grp l)) n = orD (aget l n) (aget m n) := by rw [puts_k]; exact aget_kf (skeys_perm l) n
theorem can_none {d : DevS} (h : d.most = none) : can d = true := by unfold can; rw [h]
theorem dApp_ok : ∀ (bs : List Int) (d : DevS), d.most = none → dApp bs d = ({ d with done := d.done + bs.length, steps := d.steps ++ bs.map some }, true)
  | [], d, h => by
    show (d, true) = _
    simp
  | b :: bs, d, h => by
    have e : dByte (some b) d = ({ d with done := d.done + 1, steps := d.steps ++ [some b] }, true) := by unfold dByte pw; rw [if_pos (can_none h)]
    show (if (dByte (some b) d).2 = true then dApp bs (dByte (some b) d).1 else (d, false)) = _
    rw [e, if_pos rfl, dApp_ok bs { d with done := d.done + 1, steps := d.steps ++ [some b] } h]
    simp only [Prod.mk.injEq, DevS.mk.injEq, true_and, and_true, List.map_cons, List.append_assoc, List.singleton_append, List.length_cons]
    omega
theorem fold_some (bs l : List Int) : (bs.map some).foldl lstep l = l ++ bs := by
  induction bs generalizing l with
  | nil => simp
  | cons b bs ih => rw [List.map_cons, List.foldl_cons, ih]; unfold lstep; simp
theorem dSyncL_ok {d : DevS} (h : d.most = none) : dSyncL d = ({ d with done := d.done + 1, log := clog d, steps := [] }, true) := by
  unfold dSyncL pw; rw [if_pos (can_none h)]; rfl
theorem dSyncP_ok {d : DevS} (h : d.most = none) : dSyncP d = ({ d with done := d.done + 1, pages := puts d.pages d.writes, writes := [] }, true) := by
  unfold dSyncP pw; rw [if_pos (can_none h)]; rfl
theorem dByte_ok {d : DevS} {b : Option Int} (h : d.most = none) : dByte b d = ({ d with done := d.done + 1, steps := d.steps ++ [b] }, true) := by
  unfold dByte pw; rw [if_pos (can_none h)]
theorem pwrites_ok : ∀ (ws : List (Int × List Int)) (d : DevS), d.most = none → pwrites ws d = ({ d with done := d.done + ws.length, writes := d.writes ++ ws }, true)
  | [], d, h => by
    show (d, true) = _
    simp
  | q :: ws, d, h => by
    have e : dWrite q.1 q.2 d = ({ d with done := d.done + 1, writes := d.writes ++ [(q.1, q.2)] }, true) := by unfold dWrite pw; rw [if_pos (can_none h)]
    show (if (dWrite q.1 q.2 d).2 = true then pwrites ws (dWrite q.1 q.2 d).1 else (d, false)) = _
    rw [e, if_pos rfl, pwrites_ok ws { d with done := d.done + 1, writes := d.writes ++ [(q.1, q.2)] } h]
    simp only [Prod.mk.injEq, DevS.mk.injEq, true_and, and_true, List.append_assoc, List.singleton_append, List.length_cons]
    omega
/-- a pager between calls: k bounds the pages since the last checkpoint, i the calls, gs the log's groups -/
structure PSt (k i : Nat) (s : PgS) (gs : List (List (Int × List Int))) : Prop where
  mo : s.dev.most = none
  w : s.dev.writes = []
  st : s.dev.steps = []
  lg : s.dev.log = gs.flatMap wg
  gd : ∀ g ∈ gs, Good g
  cv : ∀ n, aget s.com n = aget (gs.foldl puts []) n
  cz : Zc s.com
  pz : Zc s.dev.pages
  dz : ∀ q ∈ s.dir, q.2.length = 256 ∧ 0 ≤ q.1 ∧ q.1 < 256 ^ 4
  n1 : (gs.map List.length).sum + s.dir.length ≤ k
  n2 : s.com.length ≤ (gs.map List.length).sum
  n3 : s.dev.pages.length ≤ 64 * i
  n4 : gs.length ≤ i
theorem PSt.le {k k' i i' : Nat} {s : PgS} {gs : List (List (Int × List Int))} (h : PSt k i s gs) (hk : k ≤ k') (hi : i ≤ i') : PSt k' i' s gs :=
  ⟨h.mo, h.w, h.st, h.lg, h.gd, h.cv, h.cz, h.pz, h.dz, by have := h.n1; omega, h.n2, by have := h.n3; omega, by have := h.n4; omega⟩
theorem log_len : ∀ {gs : List (List (Int × List Int))}, (∀ g ∈ gs, Good g) → (gs.flatMap wg).length ≤ 15604 * gs.length
  | [], _ => Nat.le_refl _
  | g :: gs, h => by
    have h1 := log_len (gs := gs) fun x hx => h x (List.mem_cons_of_mem _ hx)
    have h2 := h g (by simp)
    have h3 := h2.n
    rw [List.flatMap_cons, List.length_append, wg_len h2, List.length_cons]
    omega
theorem PSt.pgz {k i : Nat} {s : PgS} {gs : List (List (Int × List Int))} (h : PSt k i s gs) (hk : k ≤ 60) (hi : i ≤ 60) : PgZ s := by
  have l := log_len h.gd
  have := h.n1; have := h.n2; have := h.n3; have := h.n4
  exact ⟨by rw [h.w]; exact Nat.zero_le _, by rw [h.w]; show _ + 0 ≤ _; omega, by rw [h.lg, h.st]; show _ + 0 ≤ _; omega, fun q hq => Nat.le_of_eq (h.pz q hq), by rw [h.w]; exact fun q hq => (by cases hq), by omega, by omega, h.cz, h.dz⟩
theorem PSt.z {k i : Nat} {s : PgS} {gs : List (List (Int × List Int))} (h : PSt k i s gs) (n : Int) : (gpg s n).length = 256 := by
  unfold gpg
  cases e1 : aget s.dir n with
  | some d => exact (h.dz _ (aget_mem' e1)).1
  | none =>
    cases e2 : aget s.com n with
    | some d => exact h.cz _ (aget_mem' e2)
    | none =>
      show (cpg s.dev n).length = 256
      unfold cpg; rw [h.w]
      show (dpg s.dev n).length = 256
      unfold dpg
      cases e3 : aget s.dev.pages n with
      | some d => exact h.pz _ (aget_mem' e3)
      | none => exact zeros_len
/-- what stands without the dirty ones -/
def bv (s : PgS) : Int → List Int := gpg { s with dir := [] }
theorem PSt.nod {k i : Nat} {s : PgS} {gs : List (List (Int × List Int))} (h : PSt k i s gs) : PSt k i { s with dir := [] } gs :=
  ⟨h.mo, h.w, h.st, h.lg, h.gd, h.cv, h.cz, h.pz, fun q hq => (by cases hq), by have := h.n1; show _ + 0 ≤ k; omega, h.n2, h.n3, h.n4⟩
theorem PSt.put {k i : Nat} {s : PgS} {gs : List (List (Int × List Int))} {n : Int} {ds : List Int} (h : PSt k i s gs) (hn : 0 ≤ n ∧ n < 256 ^ 4) (hl : ds.length = 256) : PSt (k + 1) i (pwr n ds s) gs := by
  refine ⟨h.mo, h.w, h.st, h.lg, h.gd, h.cv, h.cz, h.pz, fun q hq => ?_, ?_, h.n2, h.n3, h.n4⟩
  · rcases aput_mem (show q ∈ aput s.dir n ds from hq) with hq | hq
    · exact h.dz q hq
    · rw [hq]; exact ⟨hl, hn⟩
  · have := pwr_len s n ds; have := h.n1; omega
theorem PSt.set {k i : Nat} {s : PgS} {gs : List (List (Int × List Int))} {f : Nat} {x : Int} (h : PSt k i s gs) (hf : f ≤ 7) : PSt (k + 1) i (setf f x s) gs :=
  h.put ⟨by decide, by decide⟩ (by rw [spl_len (by rw [h.z]; omega)]; exact h.z 0)
theorem PSt.cn {k i : Nat} {s : PgS} {gs : List (List (Int × List Int))} (h : PSt k i s gs) : PSt (k + 1) i (cnth s) gs := by
  unfold cnth; split
  · exact h.set (by decide)
  · exact h.le (by omega) (Nat.le_refl _)
theorem gpg_dir {s t : PgS} (h1 : s.dev = t.dev) (h2 : s.com = t.com) : bv s = bv t := by unfold bv; rw [h1, h2]
theorem bv_at {k i : Nat} {s : PgS} {gs : List (List (Int × List Int))} (h : PSt k i s gs) (n : Int) : bv s n = (orD (aget s.com n) (aget s.dev.pages n)).getD zeros := by
  unfold bv gpg
  show (match aget s.com n with | some d => d | none => cpg s.dev n) = _
  cases e : aget s.com n with
  | some d => rfl
  | none =>
    show cpg s.dev n = _
    unfold cpg; rw [h.w]; rfl
theorem gpg_at {k i : Nat} {s : PgS} {gs : List (List (Int × List Int))} (h : PSt k i s gs) (n : Int) : gpg s n = (orD (aget s.dir n) (orD (aget s.com n) (aget s.dev.pages n))).getD zeros := by
  have b := bv_at h n
  unfold bv gpg at b
  unfold gpg
  cases e : aget s.dir n with
  | some d => rfl
  | none => exact b
theorem sum_snoc (l : List Nat) (x : Nat) : (l ++ [x]).sum = l.sum + x := by simp
theorem orD_none (b : Option (List Int)) : orD none b = b := rfl
theorem orD_as (a b e : Option (List Int)) : orD (orD a b) e = orD a (orD b e) := by cases a <;> rfl
theorem aget_nil (n : Int) : aget [] n = none := rfl
/-- a commit -/
theorem PSt.com' {k i : Nat} {s : PgS} {gs : List (List (Int × List Int))} (h : PSt k i s gs) (hk : k ≤ 60) (hi : i ≤ 60) : ∃ s' gs', pcommit s = (s', true) ∧ PSt k (i + 1) s' gs' ∧ s'.dir = [] ∧ gpg s' = gpg s ∧ (gs'.length = gs.length ∨ gs'.length = gs.length + 1) := by
  have n1 := h.n1; have n2 := h.n2; have n3 := h.n3; have n4 := h.n4
  by_cases e : s.dir.length = 0
  · exact ⟨s, gs, by unfold pcommit; rw [if_pos e], h.le (Nat.le_refl _) (by omega), List.eq_nil_of_length_eq_zero e, rfl, .inl rfl⟩
  · have c1 : (andD (dApp (wg (grp s.dir)) s.dev) dSyncL) = ({ s.dev with done := s.dev.done + (wg (grp s.dir)).length + 1, log := s.dev.log ++ wg (grp s.dir), steps := [] }, true) := by
      rw [dApp_ok _ _ h.mo, andD_yes rfl, dSyncL_ok (by exact h.mo)]
      unfold clog
      show (({ pages := s.dev.pages, writes := s.dev.writes, log := (s.dev.steps ++ (wg (grp s.dir)).map some).foldl lstep s.dev.log, steps := [], done := _, most := _ } : DevS), true) = _
      rw [h.st, List.nil_append, fold_some]
    have gd : Good (grp s.dir) := (h.pgz hk hi).good.resolve_right (by omega)
    have lgr : (grp s.dir).length = s.dir.length := by unfold grp; rw [List.length_map, skeys_len]
    have P' : PSt k (i + 1) { dev := { s.dev with done := s.dev.done + (wg (grp s.dir)).length + 1, log := s.dev.log ++ wg (grp s.dir), steps := [] }, com := coms s.dir s.com, dir := [] } (gs ++ [grp s.dir]) := by
      refine ⟨h.mo, h.w, rfl, ?_, fun g hg => ?_, fun n => ?_, ?_, h.pz, fun q hq => (by cases hq), ?_, ?_, ?_, ?_⟩
      · show s.dev.log ++ wg (grp s.dir) = _
        rw [h.lg, List.flatMap_append]; simp
      · rcases List.mem_append.mp hg with hg | hg
        · exact h.gd g hg
        · rw [List.mem_singleton.mp hg]; exact gd
      · show aget (coms s.dir s.com) n = _
        rw [aget_coms, List.foldl_append, List.foldl_cons, List.foldl_nil, aget_pgrp, h.cv]
      · show Zc (coms s.dir s.com)
        rw [coms_k]
        exact kput_zc h.cz fun n hn => fv_z (fun q hq => (h.dz q hq).1) hn
      · rw [List.map_append, List.map_cons, List.map_nil, sum_snoc, lgr]; show _ + 0 ≤ k; omega
      · show (coms s.dir s.com).length ≤ _
        rw [List.map_append, List.map_cons, List.map_nil, sum_snoc, lgr, coms_k]
        have := kput_len (fv s.dir) (s.dir.map (·.1)) s.com
        rw [List.length_map] at this
        omega
      · show s.dev.pages.length ≤ _; omega
      · rw [List.length_append, List.length_singleton]; omega
    refine ⟨_, gs ++ [grp s.dir], ?_, P', rfl, ?_, .inr (by simp)⟩
    · unfold pcommit; rw [if_neg e, c1]; rfl
    · funext n
      rw [gpg_at P', gpg_at h]
      show (orD (aget [] n) (orD (aget (coms s.dir s.com) n) (aget s.dev.pages n))).getD zeros = _
      rw [aget_nil, orD_none, aget_coms, orD_as]
theorem andD_mk (d : DevS) (f : DevS → DevS × Bool) : andD (d, true) f = f d := if_pos rfl
/-- a checkpoint -/
theorem PSt.ck {k i : Nat} {s : PgS} {gs : List (List (Int × List Int))} (h : PSt k i s gs) (hk : k ≤ 60) : ∃ s', pckpt s = (s', true) ∧ PSt k (i + 1) s' [] ∧ s'.dir = s.dir ∧ gpg s' = gpg s ∧ bv s' = bv s := by
  have n1 := h.n1; have n2 := h.n2; have n3 := h.n3; have n4 := h.n4
  obtain ⟨dn, c1⟩ : ∃ dn, andD (andD (andD (pwrites (grp s.com) s.dev) dSyncP) (dByte none)) dSyncL = ({ pages := puts s.dev.pages (grp s.com), writes := [], log := [], steps := [], done := dn, most := none }, true) := by
    rw [pwrites_ok _ _ h.mo, andD_mk, dSyncP_ok (by exact h.mo), andD_mk, dByte_ok (by exact h.mo), andD_mk, dSyncL_ok (by exact h.mo)]
    unfold clog
    refine ⟨s.dev.done + (grp s.com).length + 1 + 1 + 1, ?_⟩
    simp [h.w, h.st, h.mo, lstep]
  have lgr : (grp s.com).length = s.com.length := by unfold grp; rw [List.length_map, skeys_len]
  have P' : PSt k (i + 1) { dev := { pages := puts s.dev.pages (grp s.com), writes := [], log := [], steps := [], done := dn, most := none }, com := [], dir := s.dir } [] := by
    refine ⟨rfl, rfl, rfl, rfl, fun g hg => (by cases hg), fun n => rfl, fun q hq => (by cases hq), ?_, h.dz, ?_, Nat.zero_le _, ?_, Nat.zero_le _⟩
    · show Zc (puts s.dev.pages (grp s.com))
      rw [puts_k]
      exact kput_zc h.pz fun n hn => fv_z h.cz ((skeys_perm _).mem_iff.mp hn)
    · show 0 + s.dir.length ≤ k; omega
    · show (puts s.dev.pages (grp s.com)).length ≤ 64 * (i + 1)
      have := puts_len (grp s.com) s.dev.pages
      unfold puts; omega
  refine ⟨_, ?_, P', rfl, ?_, ?_⟩
  · unfold pckpt; rw [c1]; rfl
  · funext n
    rw [gpg_at P', gpg_at h]
    show (orD (aget s.dir n) (orD (aget [] n) (aget (puts s.dev.pages (grp s.com)) n))).getD zeros = _
    rw [aget_nil, orD_none, aget_pgrp]
  · funext n
    rw [bv_at P', bv_at h]
    show (orD (aget [] n) (aget (puts s.dev.pages (grp s.com)) n)).getD zeros = _
    rw [aget_nil, orD_none, aget_pgrp]
theorem puts_zc : ∀ {g m : List (Int × List Int)}, Zc m → Zc g → Zc (puts m g)
  | [], _, h, _ => h
  | q :: g, m, h, hw => puts_zc (g := g) (aput_zc h (hw q (by simp))) fun r hr => hw r (List.mem_cons_of_mem _ hr)
theorem gs_zc : ∀ {gs : List (List (Int × List Int))} {m : List (Int × List Int)}, Zc m → (∀ g ∈ gs, Good g) → Zc (gs.foldl puts m)
  | [], _, h, _ => h
  | g :: gs, m, h, hg => gs_zc (gs := gs) (puts_zc h fun q hq => ((hg g (by simp)).q q hq).2.2) fun x hx => hg x (List.mem_cons_of_mem _ hx)
theorem gs_len : ∀ (gs : List (List (Int × List Int))) (m : List (Int × List Int)), (gs.foldl puts m).length ≤ m.length + (gs.map List.length).sum
  | [], _ => Nat.le_refl _
  | g :: gs, m => by
    have h1 := gs_len gs (puts m g)
    have h2 := puts_len g m
    unfold puts at h1 h2
    rw [List.foldl_cons, List.map_cons, List.sum_cons]
    unfold puts
    omega
/-- a crash, and the pager anew -/
theorem PSt.init {k i : Nat} {s : PgS} {gs : List (List (Int × List Int))} (h : PSt k i s gs) (hk : k ≤ 60) (hi : i ≤ 60) : clog (dCrash [] 0 s.dev) = gs.flatMap wg ∧ CkZ (pini0 gs (dCrash [] 0 s.dev)) ∧ ∃ s1, pini1 gs (dCrash [] 0 s.dev) = (s1, true) ∧ PSt k (i + 1) s1 [] ∧ s1.dir = [] ∧ gpg s1 = bv s := by
  have n1 := h.n1; have n2 := h.n2; have n3 := h.n3; have n4 := h.n4
  have dl : (dCrash [] 0 s.dev).log = gs.flatMap wg := h.lg
  have P0 : PSt k i (pini0 gs (dCrash [] 0 s.dev)) gs := by
    refine ⟨rfl, rfl, rfl, dl, h.gd, fun n => rfl, gs_zc (fun q hq => (by cases hq)) h.gd, ?_, fun q hq => (by cases hq), by show _ + 0 ≤ k; omega, ?_, ?_, n4⟩
    · show Zc ((s.dev.writes.zip []).foldl dFate s.dev.pages)
      rw [List.zip_nil_right]; exact h.pz
    · have := gs_len gs []
      show (gs.foldl puts []).length ≤ _
      simpa using this
    · show ((s.dev.writes.zip ([] : List Int)).foldl dFate s.dev.pages).length ≤ _
      rw [List.zip_nil_right]; exact n3
  have b0 : gpg (pini0 gs (dCrash [] 0 s.dev)) = bv s := by
    funext n
    rw [gpg_at P0, bv_at h]
    show (orD (aget [] n) (orD (aget (gs.foldl puts []) n) (aget ((s.dev.writes.zip []).foldl dFate s.dev.pages) n))).getD zeros = _
    rw [aget_nil, orD_none, List.zip_nil_right, h.cv]; rfl
  have cl : clog (dCrash [] 0 s.dev) = gs.flatMap wg := dl
  refine ⟨cl, (P0.pgz hk hi).ck, ?_⟩
  by_cases e : 0 < (clog (dCrash [] 0 s.dev)).length
  · obtain ⟨s', e1, P', d', g', b'⟩ := P0.ck hk
    exact ⟨s', by unfold pini1; rw [if_pos e, e1], P', d', g'.trans b0⟩
  · have eg : gs = [] := by
      cases hg : gs with
      | nil => rfl
      | cons g gs' =>
        exfalso
        apply e
        rw [cl, hg, List.flatMap_cons, List.length_append, wg_len (h.gd g (by rw [hg]; simp))]; omega
    refine ⟨pini0 gs (dCrash [] 0 s.dev), by unfold pini1; rw [if_neg e], ?_, rfl, b0⟩
    have := P0.le (Nat.le_refl k) (Nat.le_succ i)
    rw [eg] at this ⊢
    exact this
/-! ### items of key trees: entries and children -/
structure Itm where
  a : Int
  b : Int
  c : Int
  x : Option (List Int × List Int)
def ItV (K : PySem.W.Frag) (H : Hp) (v : V) (it : Itm) : Prop := ∃ t, v = .ref t ∧ match it.x with
  | none => SqT K H t [.int it.a, .int it.b, .int it.c]
  | some (pt, pl) => ∃ p1 p2, SqT K H t [.int it.a, .int it.b, .int it.c, .ref p1, .ref p2] ∧ SqT K H p1 (pt.map V.int) ∧ SqT K H p2 (pl.map V.int)
theorem ItV.kp {K : PySem.W.Frag} {F : Addr → Prop} {H H' : Hp} {v : V} {it : Itm} (k : Kp F H H') (h : ItV K H v it) : ItV K H' v it := by
  obtain ⟨t, rfl, h⟩ := h
  refine ⟨t, rfl, ?_⟩
  cases e : it.x with
  | none => rw [e] at h; exact k.sqT h
  | some q =>
    obtain ⟨pt, pl⟩ := q
    rw [e] at h
    obtain ⟨p1, p2, h0, h1, h2⟩ := h
    exact ⟨p1, p2, k.sqT h0, k.sqT h1, k.sqT h2⟩
theorem ItV.three {K : PySem.W.Frag} {H : Hp} {v : V} {it : Itm} (h : ItV K H v it) : ∃ t r, v = .ref t ∧ SqT K H t (.int it.a :: .int it.b :: .int it.c :: r) ∧ r.length ≤ 2 := by
  obtain ⟨t, rfl, h⟩ := h
  cases e : it.x with
  | none => rw [e] at h; exact ⟨t, [], rfl, h, by decide⟩
  | some q =>
    obtain ⟨pt, pl⟩ := q
    rw [e] at h
    obtain ⟨p1, p2, h0, _⟩ := h
    exact ⟨t, _, rfl, h0, Nat.le_refl _⟩
theorem pr_app {α β : Type} {R : α → β → Prop} : ∀ {l : List α} {m : List β} {l' : List α} {m' : List β}, Paired R l m → Paired R l' m' → Paired R (l ++ l') (m ++ m')
  | _, _, _, _, .nil, h => h
  | _, _, _, _, .cons r t, h => .cons r (pr_app t h)
abbrev ItVs (K : PySem.W.Frag) (H : Hp) (vs : List V) (its : List Itm) : Prop := Paired (ItV K H) vs its
def tailI : Option (List Int × List Int) → List Int
  | none => []
  | some (pt, pl) => wp pt ++ (pl.length : Int) :: pl
def encI (it : Itm) : List Int := wn 4 it.a ++ wn 4 it.b ++ wn 4 it.c ++ tailI it.x
def encB (kd : Int) (its : List Itm) : List Int := kd :: (its.length : Int) :: its.flatMap encI
def pad (ds : List Int) : List Int := ds ++ List.replicate (256 - ds.length) 0
/-- the kind fits the items -/
def KdI (kd : Int) (it : Itm) : Prop := (kd = 1 ∧ ∃ pt pl, it.x = some (pt, pl) ∧ pt.length ≤ 1000 ∧ pl.length ≤ 1000) ∨ (kd = 2 ∧ it.x = none)
structure KtA (c : Cl) (H : Hp) (kt p : Addr) (r D : Int) : Prop where
  o : ∃ dx, H kt = some (.ins c.KeyTree dx (F_KeyTree (.ref p) (.int r) (.int D)))
theorem KtA.kp {c : Cl} {F : Addr → Prop} {H H' : Hp} {kt p : Addr} {r D : Int} (k : Kp F H H') (h : KtA c H kt p r D) (n : ¬ F kt) : KtA c H' kt p r D := by
  obtain ⟨dx, o⟩ := h.o
  exact ⟨dx, k.get o n⟩
section
variable {P : Program} {w : World} {K : PySem.W.Frag} {mg : Str → Option Value} {base : Heap} {c : Cl}
def sp_pair_of (K : PySem.W.Frag) : Sp := fun vs H Q _ => ∃ v it, vs = [v] ∧ ItV K H v it ∧ ∀ H' p, Kp F0 H H' → SqT K H' p [.int it.a, .int it.b] → Q (.ref p) H'
theorem ok_pair_of (T : Txt K mg c) : GF P w K mg base CX0 1 "pair_of" (sp_pair_of K) := by
  obtain ⟨f, fd, F, gm⟩ := T.f_pair_of
  refine ⟨f, fd, ["item"], F.ok sc_pair_of ?_ (fun cdv A outer s H vs Q E hr h => ?_), gm, F.kp, (F.binds (ps := ["item"]) fun _ _ _ _ _ _ us hl => match us, hl with | [_], _ => rfl)⟩
  · rintro vs H Q E ⟨_, _, rfl, _⟩
    rfl
  · obtain ⟨v, it, rfl, hv, k⟩ := h
    obtain ⟨t, r, rfl, ht, _⟩ := hv.three
    refine ⟨_, (pss_one (ps_ret (pe_slice (r := rSlA K) sl_tupA (pv 0) po_none (po_some pe_int)))), ?_⟩
    walk_at "cx"
    walk_at "rd"
    refine x_slT ht fun p H1 k1 e1 => ?_
    exact k H1 p k1 e1
def sp_filled : Sp := fun vs H Q _ => ∃ l ds, vs = [.ref l] ∧ H l = some (.lst (ds.map V.int)) ∧ ds.length ≤ 256 ∧ ∀ b H', H b = none → Kp F0 H H' → H' b = some (.lst ((pad ds).map V.int)) → Q (.ref b) H'
theorem ok_filled (T : Txt K mg c) : GF P w K mg base CX0 1 "filled" sp_filled := by
  obtain ⟨f, fd, F, gm⟩ := T.f_filled
  obtain ⟨_, mg_PAGE_SIZE⟩ := T.m_PAGE_SIZE
  refine ⟨f, fd, ["data"], F.ok sc_filled ?_ (fun cdv A outer s H vs Q E hr h => ?_), gm, F.kp, (F.binds (ps := ["data"]) fun _ _ _ _ _ _ us hl => match us, hl with | [_], _ => rfl)⟩
  · rintro vs H Q E ⟨_, _, rfl, _⟩
    rfl
  · obtain ⟨l, ds, rfl, hl, lz, k⟩ := h
    refine ⟨_, (pss_one (ps_ret (pe_op op_cat (pv 0) (pe_op op_rep (pe_lst (pa_cons pe_int pa_nil)) (pe_op op_sub (pe_glob (v := .int 256) rfl mg_PAGE_SIZE ⟨_, rfl⟩) (pe_callB (r := rLenQ K) c_len (by rfl) T.z_len PySem.boot_len (pa_cons (pv 0) pa_nil))))))), ?_⟩
    walk_at "cx"
    walk_at "rd"
    refine x_newL fun z1 H1 hz1 k1 e1 => ?_
    have hl1 := k1.get hl id
    walk_at "rd"
    rw [List.length_map]
    refine x_rep e1 (by omega) (by omega) fun z2 H2 hz2 k2 e2 => ?_
    walk_at "rd"
    refine x_catL (k2.get hl1 id) e2 (by rw [List.length_map, List.length_replicate, sizeLine_eq]; omega) fun b H3 hb k3 e3 => ?_
    refine k b H3 (k1.free (k2.free hb id) id) ((k1.trans k2 fun _ z => z.elim).trans k3 fun _ z => z.elim) ?_
    rw [e3]
    unfold pad
    rw [List.map_append, List.map_replicate, show ((256 : Int) - (ds.length : Int)).toNat = 256 - ds.length by omega]
def sp_KeyTree_write_entry (K : PySem.W.Frag) : Sp := fun vs H Q _ => ∃ kt v it pt pl, vs = [.ref kt, v] ∧ ItV K H v it ∧ it.x = some (pt, pl) ∧ pt.length ≤ 1000 ∧ pl.length ≤ 1000 ∧ ∀ b H', H b = none → Kp F0 H H' → H' b = some (.lst ((encI it).map V.int)) → Q (.ref b) H'
theorem ok_KeyTree_write_entry (T : Txt K mg c) : GM P w K mg base CX0 3 c.KeyTree "write_entry" (sp_KeyTree_write_entry K) := by
  obtain ⟨f, fd, F, gf, gi⟩ := T.f_KeyTree_write_entry
  refine ⟨f, fd, ["self", "entry"], F.ok sc_KeyTree_write_entry ?_ (fun cdv A outer s H vs Q E hr h => ?_), ⟨gf, gi, F.kp⟩, (F.binds (ps := ["self", "entry"]) fun _ _ _ _ _ _ us hl => match us, hl with | [_, _], _ => rfl)⟩
  · rintro vs H Q E ⟨_, _, _, _, _, rfl, _⟩
    rfl
  · obtain ⟨kt, v, it, pt, pl, rfl, ⟨t, rfl, hv⟩, ex, l1, l2, k⟩ := h
    rw [ex] at hv
    obtain ⟨p1, p2, ht, h1, h2⟩ := hv
    refine ⟨_, (pss_cons (ps_asg (pv 1) (pg_kT rfl (pg_tup (n := 5) rfl (pgs_cons (pg_name (i := 2) sc_KeyTree_write_entry.nd rfl (Or.inl rfl)) (pgs_cons (pg_name (i := 3) sc_KeyTree_write_entry.nd rfl (Or.inl rfl)) (pgs_cons (pg_name (i := 4) sc_KeyTree_write_entry.nd rfl (Or.inl rfl)) (pgs_cons (pg_name (i := 5) sc_KeyTree_write_entry.nd rfl (Or.inl rfl)) (pgs_cons (pg_name (i := 6) sc_KeyTree_write_entry.nd rfl (Or.inl rfl)) pgs_nil))))))))
      (pss_cons (ps_set (i := 7) sc_KeyTree_write_entry.nd rfl (Or.inl rfl) (pe_op op_cat (pe_op op_cat (pe_op op_cat (pe_g (ok_write_number T) (hr.mono (by decide)) pass0S (pa_cons pe_int (pa_cons (pv 2) pa_nil))) (pe_g (ok_write_number T) (hr.mono (by decide)) pass0S (pa_cons pe_int (pa_cons (pv 3) pa_nil)))) (pe_g (ok_write_number T) (hr.mono (by decide)) pass0S (pa_cons pe_int (pa_cons (pv 4) pa_nil)))) (pe_g (ok_write_point T) (hr.mono (by decide)) pass0S (pa_cons (pv 5) pa_nil))))
      (pss_one (ps_ret (pe_op op_cat (pe_op op_cat (pv 7) (pe_lst (pa_cons (pe_callB (r := rLenQ K) c_len (by rfl) T.z_len PySem.boot_len (pa_cons (pv 6) pa_nil)) pa_nil))) (pe_callTy (r := rLstQ K) c_list (by rfl) T.z_list (by decide +kernel) (pa_cons (pv 6) pa_nil))))))), ?_⟩
    walk_at "cx"
    walk_at "rd"
    refine ⟨4, it.a, rfl, by decide, fun b1 H1 hb1 k1 e1 => ?_⟩
    walk_at "rd"
    refine ⟨4, it.b, rfl, by decide, fun b2 H2 hb2 k2 e2 => ?_⟩
    walk_at "rd"
    refine x_catL (k2.get e1 id) e2 (by rw [List.length_map, List.length_map, wn_len, wn_len, sizeLine_eq]; omega) fun b3 H3 hb3 k3 e3 => ?_
    walk_at "rd"
    refine ⟨4, it.c, rfl, by decide, fun b4 H4 hb4 k4 e4 => ?_⟩
    walk_at "rd"
    refine x_catL (k4.get e3 id) e4 (by simp only [List.length_append, List.length_map, wn_len, sizeLine_eq]; omega) fun b5 H5 hb5 k5 e5 => ?_
    have k05 : Kp F0 H H5 := (((k1.trans k2 fun _ z => z.elim).trans k3 fun _ z => z.elim).trans k4 fun _ z => z.elim).trans k5 fun _ z => z.elim
    walk_at "rd"
    refine ⟨p1, pt, rfl, k05.sqT h1, l1, fun b6 H6 hb6 k6 e6 => ?_⟩
    walk_at "rd"
    refine x_catL (k6.get e5 id) e6 (by simp only [List.length_append, List.length_map, wn_len, wp_len, sizeLine_eq]; omega) fun b7 H7 hb7 k7 e7 => ?_
    have k07 : Kp F0 H H7 := (k05.trans k6 fun _ z => z.elim).trans k7 fun _ z => z.elim
    have h27 := k07.sqT h2
    walk_at "rd"
    rw [List.length_map]
    refine x_newL fun b8 H8 hb8 k8 e8 => ?_
    walk_at "rd"
    refine x_catL (k8.get e7 id) e8 (by simp only [List.length_append, List.length_map, wn_len, wp_len, sizeLine_eq, List.length_cons, List.length_nil]; omega) fun b9 H9 hb9 k9 e9 => ?_
    have k09 : Kp F0 H H9 := (k07.trans k8 fun _ z => z.elim).trans k9 fun _ z => z.elim
    walk_at "rd"
    refine x_lstT (k09.sqT h2) fun b10 H10 hb10 k10 e10 => ?_
    walk_at "rd"
    refine x_catL (k10.get e9 id) e10 (by simp only [List.length_append, List.length_map, wn_len, wp_len, sizeLine_eq, List.length_cons, List.length_nil]; omega) fun b11 H11 hb11 k11 e11 => ?_
    have k010 : Kp F0 H H10 := k09.trans k10 fun _ z => z.elim
    refine k b11 H11 (k010.free hb11 id) (k010.trans k11 fun _ z => z.elim) ?_
    rw [e11]
    unfold encI
    rw [ex]
    unfold tailI
    simp only [List.map_append, List.map_cons, List.map_nil, List.append_assoc, List.singleton_append, List.cons_append, List.nil_append]
def sp_KeyTree_write_item (c : Cl) (K : PySem.W.Frag) : Sp := fun vs H Q _ => ∃ kt p r D kd v it, vs = [.ref kt, .int kd, v] ∧ KtA c H kt p r D ∧ ItV K H v it ∧ KdI kd it ∧ ∀ b H', H b = none → Kp F0 H H' → H' b = some (.lst ((encI it).map V.int)) → Q (.ref b) H'
theorem ok_KeyTree_write_item (T : Txt K mg c) : GM P w K mg base CX0 4 c.KeyTree "write_item" (sp_KeyTree_write_item c K) := by
  obtain ⟨f, fd, F, gf, gi⟩ := T.f_KeyTree_write_item
  obtain ⟨_, mg_LEAF⟩ := T.m_LEAF
  have tc_KeyTree := T.cl_KeyTree; have tn_KeyTree_pager := T.n_KeyTree_pager; have tn_KeyTree_root := T.n_KeyTree_root; have tn_KeyTree_dimensions := T.n_KeyTree_dimensions
  refine ⟨f, fd, ["self", "kind", "item"], F.ok sc_KeyTree_write_item ?_ (fun cdv A outer s H vs Q E hr h => ?_), ⟨gf, gi, F.kp⟩, (F.binds (ps := ["self", "kind", "item"]) fun _ _ _ _ _ _ us hl => match us, hl with | [_, _, _], _ => rfl)⟩
  · rintro vs H Q E ⟨_, _, _, _, _, _, _, rfl, _⟩
    rfl
  · obtain ⟨kt, p, r, D, kd, v, it, rfl, hk, hv, hkd, k⟩ := h
    obtain ⟨dx, ho⟩ := hk.o
    refine ⟨_, (pss_cons (ps_if (pt_cmpR op_eq (pv 1) (pe_glob (v := .int 1) rfl mg_LEAF ⟨_, rfl⟩) (nomark _)) (pss_one (ps_ret (pe_gm T.cl_KeyTree (ok_KeyTree_write_entry T) (pv 0) (hr.mono (by decide)) pass0S (pa_cons (pv 2) pa_nil)))) pss_nil)
      (pss_one (ps_ret (pe_op op_cat (pe_op op_cat (pe_g (ok_write_number T) (hr.mono (by decide)) pass0S (pa_cons pe_int (pa_cons (pe_ix (r := rIxT K) ix_tup (pv 2) pe_int (fun _ _ => rfl)) pa_nil))) (pe_g (ok_write_number T) (hr.mono (by decide)) pass0S (pa_cons pe_int (pa_cons (pe_ix (r := rIxT K) ix_tup (pv 2) pe_int (fun _ _ => rfl)) pa_nil)))) (pe_g (ok_write_number T) (hr.mono (by decide)) pass0S (pa_cons pe_int (pa_cons (pe_ix (r := rIxT K) ix_tup (pv 2) pe_int (fun _ _ => rfl)) pa_nil))))))), ?_⟩
    walk_at "cx"
    walk_at "rd"
    rcases hkd with ⟨rfl, pt, pl, ex, l1, l2⟩ | ⟨rfl, ex⟩
    · refine if_dtt rfl ?_
      walk_at "rd"
      exact ⟨kt, v, it, pt, pl, rfl, hv, ex, l1, l2, k⟩
    · refine if_dff (by decide) ?_
      obtain ⟨t, rfl, ht⟩ := hv
      rw [ex] at ht
      walk_at "rd"
      refine ⟨4, it.a, rfl, by decide, fun b1 H1 hb1 k1 e1 => ?_⟩
      have ht1 := k1.sqT ht
      walk_at "rd"
      refine ⟨4, it.b, rfl, by decide, fun b2 H2 hb2 k2 e2 => ?_⟩
      walk_at "rd"
      refine x_catL (k2.get e1 id) e2 (by rw [List.length_map, List.length_map, wn_len, wn_len, sizeLine_eq]; omega) fun b3 H3 hb3 k3 e3 => ?_
      have ht3 := k3.sqT (k2.sqT ht1)
      walk_at "rd"
      refine ⟨4, it.c, rfl, by decide, fun b4 H4 hb4 k4 e4 => ?_⟩
      walk_at "rd"
      refine x_catL (k4.get e3 id) e4 (by simp only [List.length_append, List.length_map, wn_len, sizeLine_eq]; omega) fun b5 H5 hb5 k5 e5 => ?_
      have k04 : Kp F0 H H4 := ((k1.trans k2 fun _ z => z.elim).trans k3 fun _ z => z.elim).trans k4 fun _ z => z.elim
      refine k b5 H5 (k04.free hb5 id) (k04.trans k5 fun _ z => z.elim) ?_
      rw [e5]
      unfold encI
      rw [ex]
      simp only [tailI, List.map_append, List.append_nil]
end
def tailN : Option (List Int × List Int) → Nat
  | none => 0
  | some (pt, pl) => 2 * pt.length + 1 + pl.length
theorem encI_len (it : Itm) : (encI it).length = 12 + tailN it.x := by
  unfold encI
  rw [List.length_append, List.length_append, List.length_append, wn_len, wn_len, wn_len]
  cases it.x with
  | none => rfl
  | some q =>
    obtain ⟨pt, pl⟩ := q
    show 4 + 4 + 4 + (wp pt ++ (pl.length : Int) :: pl).length = 12 + (2 * pt.length + 1 + pl.length)
    rw [List.length_append, wp_len, List.length_cons]
    omega
theorem KdI.len {kd : Int} {it : Itm} (h : KdI kd it) : (encI it).length ≤ 3013 := by
  rw [encI_len]
  rcases h with ⟨_, pt, pl, e, l1, l2⟩ | ⟨_, e⟩
  · rw [e]; show 12 + (2 * pt.length + 1 + pl.length) ≤ _; omega
  · rw [e]; show 12 + 0 ≤ _; omega
theorem fm_le {α : Type} {f : α → List Int} {n : Nat} : ∀ {g : List α}, (∀ q ∈ g, (f q).length ≤ n) → (g.flatMap f).length ≤ n * g.length
  | [], _ => Nat.le_refl _
  | q :: g, h => by
    have h1 := fm_le (g := g) fun r hr => h r (List.mem_cons_of_mem _ hr)
    have h2 := h q (by simp)
    rw [List.flatMap_cons, List.length_append, List.length_cons, Nat.mul_succ]
    omega
theorem encB_len {kd : Int} {its : List Itm} (h : ∀ it ∈ its, KdI kd it) : (encB kd its).length ≤ 2 + 3013 * its.length := by
  have z := fm_le (f := encI) (n := 3013) fun it hi => (h it hi).len
  unfold encB
  rw [List.length_cons, List.length_cons]
  omega
theorem pad_len {ds : List Int} (h : ds.length ≤ 256) : (pad ds).length = 256 := by unfold pad; rw [List.length_append, List.length_replicate]; omega
section
variable {P : Program} {w : World} {K : PySem.W.Frag} {mg : Str → Option Value} {base : Heap} {c : Cl}
def sp_KeyTree_bytes_of (c : Cl) (K : PySem.W.Frag) : Sp := fun vs H Q _ => ∃ (kt p : Addr) (r D kd : Int) (l : Addr) (ws : List V) (its : List Itm), vs = [.ref kt, .int kd, .ref l] ∧ KtA c H kt p r D ∧ H l = some (.lst ws) ∧ ItVs K H ws its ∧ (∀ it ∈ its, KdI kd it) ∧ its.length ≤ 1000 ∧ ∀ b H', H b = none → Kp F0 H H' → H' b = some (.lst ((encB kd its).map V.int)) → Q (.ref b) H'
theorem ok_KeyTree_bytes_of (T : Txt K mg c) : GM P w K mg base CX0 5 c.KeyTree "bytes_of" (sp_KeyTree_bytes_of c K) := by
  obtain ⟨f, fd, F, gf, gi⟩ := T.f_KeyTree_bytes_of
  have tc_KeyTree := T.cl_KeyTree; have tn_KeyTree_pager := T.n_KeyTree_pager; have tn_KeyTree_root := T.n_KeyTree_root; have tn_KeyTree_dimensions := T.n_KeyTree_dimensions
  refine ⟨f, fd, ["self", "kind", "items"], F.ok sc_KeyTree_bytes_of ?_ (fun cdv A outer s H vs Q E hr h => ?_), ⟨gf, gi, F.kp⟩, (F.binds (ps := ["self", "kind", "items"]) fun _ _ _ _ _ _ us hl => match us, hl with | [_, _, _], _ => rfl)⟩
  · rintro vs H Q E ⟨_, _, _, _, _, _, _, _, rfl, _⟩
    rfl
  · obtain ⟨kt, p, r, D, kd, l, ws, its, rfl, hk, hl, hv, hkd, lz, k⟩ := h
    obtain ⟨dx, ho⟩ := hk.o
    have lw := hv.length
    refine ⟨_, (pss_cons (ps_set (i := 3) sc_KeyTree_bytes_of.nd rfl (Or.inl rfl) (pe_lst (pa_cons (pv 1) (pa_cons (pe_callB (r := rLenQ K) c_len (by rfl) T.z_len PySem.boot_len (pa_cons (pv 2) pa_nil)) pa_nil))))
      (pss_cons (ps_for PassesOwn.never rfl (pi_listK rfl (pv 2)) (pg_name (i := 4) sc_KeyTree_bytes_of.nd rfl (Or.inl rfl)) (pss_one (ps_expr (pe_kBM rfl (pe_bm PySem.F.plainAttrs_list PySem.F.slot_list_extend PySem.F.type_list_extend mt_extend (pv 3) (pa_cons (pe_gm T.cl_KeyTree (ok_KeyTree_write_item T) (pv 0) (hr.mono (by decide)) pass0S (pa_cons (pv 1) (pa_cons (pv 4) pa_nil))) pa_nil))))))
      (pss_one (ps_ret (pv 3))))), ?_⟩
    walk_at "cx"
    walk_at "rd"
    rw [lw]
    refine x_newL fun b H1 hb k1 e1 => ?_
    have hl1 := k1.get hl id
    walk_at "rd"
    refine wfor (Wk.list (xs := ws)) (fun i σ H' => ∃ u, σ = [some (.ref kt), some (.int kd), some (.ref l), some (.ref b), u] ∧ H' b = some (.lst ((kd :: (its.length : Int) :: (its.take i).flatMap encI).map V.int)) ∧ Kp F0 H H')
      ⟨none, rfl, e1, k1⟩ (fun i σ H' ⟨_, _, _, kk⟩ => SqL.of (kk.get hl id)) ?_ ?_
    · rintro i v σ H2 ex ⟨u, rfl, e2, k2⟩
      obtain ⟨it, ei, hit⟩ := pgt hv ex
      have hi : i < its.length := (List.getElem?_eq_some_iff.mp ei).1
      have km := hkd it (List.mem_of_getElem? ei)
      have lt := fm_le (f := encI) (g := its.take i) (n := 3013) fun q hq => (hkd q (List.mem_of_mem_take hq)).len
      have ln := km.len
      rw [List.length_take] at lt
      have ho2 := k2.get ho id
      walk_at "rd"
      refine ⟨kt, p, r, D, kd, v, it, rfl, hk.kp k2 id, hit.kp k2, km, fun b2 H3 hb2 k3 e3 => ?_⟩
      have nb : b ≠ b2 := ne_of_none e2 hb2
      walk_at "rd"
      refine x_ext (k3.get e2 id) e3 (by rw [List.length_map, List.length_map, List.length_cons, List.length_cons]; omega) fun H4 e4 k4 => ?_
      refine ⟨_, rfl, ?_, fun x o hx _ => k4.get (k3.get (k2.get hx id) id) (ne_of_none hx hb)⟩
      rw [e4, takes ei, ← List.map_append]
      rfl
    · rintro σ H2 ⟨u, rfl, e2, k2⟩
      rw [lw, List.take_length] at e2
      walk_at "rd"
      exact k b H2 hb k2 e2
def sp_KeyTree_store (c : Cl) (K : PySem.W.Frag) : Sp := fun vs H Q _ => ∃ (kt p q : Addr) (r D kd n : Int) (l : Addr) (ws : List V) (its : List Itm) (O Od : Addr → Prop) (s : PgS), vs = [.ref kt, .int n, .int kd, .ref l] ∧ KtA c H kt p r D ∧ PagAt c H p q O Od s ∧ H l = some (.lst ws) ∧ ItVs K H ws its ∧ (∀ it ∈ its, KdI kd it) ∧ its.length ≤ 1000 ∧ (encB kd its).length ≤ 256 ∧ s.dir.length ≤ 1000000 ∧
  ∀ H' O', PagAt c H' p q O' Od (pwr n (pad (encB kd its)) s) → Stp O O' H H' → Q .non H'
theorem ok_KeyTree_store (T : Txt K mg c) : GM P w K mg base CX0 6 c.KeyTree "store" (sp_KeyTree_store c K) := by
  obtain ⟨f, fd, F, gf, gi⟩ := T.f_KeyTree_store
  have tc_KeyTree := T.cl_KeyTree; have tn_KeyTree_pager := T.n_KeyTree_pager; have tn_KeyTree_root := T.n_KeyTree_root; have tn_KeyTree_dimensions := T.n_KeyTree_dimensions
  have tc_Pager := T.cl_Pager; have tn_Pager_device := T.n_Pager_device; have tn_Pager_committed := T.n_Pager_committed; have tn_Pager_dirty := T.n_Pager_dirty
  refine ⟨f, fd, ["self", "number", "kind", "items"], F.ok sc_KeyTree_store ?_ (fun cdv A outer s0 H vs Q E hr h => ?_), ⟨gf, gi, F.kp⟩, (F.binds (ps := ["self", "number", "kind", "items"]) fun _ _ _ _ _ _ us hl => match us, hl with | [_, _, _, _], _ => rfl)⟩
  · rintro vs H Q E ⟨_, _, _, _, _, _, _, _, _, _, _, _, _, rfl, _⟩
    rfl
  · obtain ⟨kt, p, q, r, D, kd, n, l, ws, its, O, Od, s, rfl, hk, hP, hl, hv, hkd, lz, le, ls, k⟩ := h
    obtain ⟨dx, ho⟩ := hk.o
    obtain ⟨⟨dy, a1, a2, y1, y2, DP⟩, _⟩ := id hP
    have hop := DP.o
    refine ⟨_, (pss_one (ps_expr (pe_gm T.cl_Pager (ok_Pager_write T) (pe_fldK rfl (pv 0)) (hr.mono (by decide)) pass0S (pa_cons (pv 1) (pa_cons (pe_g (ok_filled T) (hr.mono (by decide)) pass0S (pa_cons (pe_gm T.cl_KeyTree (ok_KeyTree_bytes_of T) (pv 0) (hr.mono (by decide)) pass0S (pa_cons (pv 2) (pa_cons (pv 3) pa_nil))) pa_nil)) pa_nil))))), ?_⟩
    walk_at "cx"
    walk_at "rd"
    refine ⟨kt, p, r, D, kd, l, ws, its, rfl, hk, hl, hv, hkd, lz, fun b H1 hb k1 e1 => ?_⟩
    walk_at "rd"
    refine ⟨b, _, rfl, e1, le, fun b2 H2 hb2 k2 e2 => ?_⟩
    have k02 : Kp F0 H H2 := k1.trans k2 fun _ z => z.elim
    refine ⟨p, q, O, Od, s, n, b2, _, rfl, hP.same k02, SqL.of e2, ls, fun H3 O3 P3 t3 => ?_⟩
    walk_at "rd"
    exact k H3 O3 P3 ((Stp.pure k02).trans t3)
def sp_KeyTree_too_large (c : Cl) (K : PySem.W.Frag) : Sp := fun vs H Q _ => ∃ (kt p : Addr) (r D kd : Int) (l : Addr) (ws : List V) (its : List Itm), vs = [.ref kt, .int kd, .ref l] ∧ KtA c H kt p r D ∧ H l = some (.lst ws) ∧ ItVs K H ws its ∧ (∀ it ∈ its, KdI kd it) ∧ (kd = 1 ∨ kd = 2) ∧ its.length ≤ 1000 ∧
  ∀ H', Kp F0 H H' → Q (.bl (decide (if kd = 2 then 20 < its.length else 256 < (encB kd its).length))) H'
theorem ok_KeyTree_too_large (T : Txt K mg c) : GM P w K mg base CX0 6 c.KeyTree "too_large" (sp_KeyTree_too_large c K) := by
  obtain ⟨f, fd, F, gf, gi⟩ := T.f_KeyTree_too_large
  obtain ⟨_, mg_INNER⟩ := T.m_INNER
  obtain ⟨_, mg_MOST_CHILDREN⟩ := T.m_MOST_CHILDREN
  obtain ⟨_, mg_PAGE_SIZE⟩ := T.m_PAGE_SIZE
  have tc_KeyTree := T.cl_KeyTree; have tn_KeyTree_pager := T.n_KeyTree_pager; have tn_KeyTree_root := T.n_KeyTree_root; have tn_KeyTree_dimensions := T.n_KeyTree_dimensions
  refine ⟨f, fd, ["self", "kind", "items"], F.ok sc_KeyTree_too_large ?_ (fun cdv A outer s0 H vs Q E hr h => ?_), ⟨gf, gi, F.kp⟩, (F.binds (ps := ["self", "kind", "items"]) fun _ _ _ _ _ _ us hl => match us, hl with | [_, _, _], _ => rfl)⟩
  · rintro vs H Q E ⟨_, _, _, _, _, _, _, _, rfl, _⟩
    rfl
  · obtain ⟨kt, p, r, D, kd, l, ws, its, rfl, hk, hl, hv, hkd, hkk, lz, k⟩ := h
    obtain ⟨dx, ho⟩ := hk.o
    have lw := hv.length
    refine ⟨_, (pss_cons (ps_if (pt_cmpR op_eq (pv 1) (pe_glob (v := .int 2) rfl mg_INNER ⟨_, rfl⟩) (nomark _)) (pss_one (ps_ret (pe_cmpR op_gt (pe_callB (r := rLenQ K) c_len (by rfl) T.z_len PySem.boot_len (pa_cons (pv 2) pa_nil)) (pe_glob (v := .int 20) rfl mg_MOST_CHILDREN ⟨_, rfl⟩) (nomark _)))) pss_nil)
      (pss_one (ps_ret (pe_cmpR op_gt (pe_callB (r := rLenQ K) c_len (by rfl) T.z_len PySem.boot_len (pa_cons (pe_gm T.cl_KeyTree (ok_KeyTree_bytes_of T) (pv 0) (hr.mono (by decide)) pass0S (pa_cons (pv 1) (pa_cons (pv 2) pa_nil))) pa_nil)) (pe_glob (v := .int 256) rfl mg_PAGE_SIZE ⟨_, rfl⟩) (nomark _))))), ?_⟩
    walk_at "cx"
    walk_at "rd"
    rcases hkk with rfl | rfl
    · refine if_dff (by decide) ?_
      walk_at "rd"
      refine ⟨kt, p, r, D, 1, l, ws, its, rfl, hk, hl, hv, hkd, lz, fun b H1 hb k1 e1 => ?_⟩
      walk_at "rd"
      rw [List.length_map]
      have z := k H1 k1
      rw [show decide (if (1 : Int) = 2 then 20 < its.length else 256 < (encB 1 its).length) = decide ((256 : Int) < ((encB 1 its).length : Int)) by
        rw [decide_eq_decide, if_neg (by decide)]; omega] at z
      exact z
    · refine if_dtt rfl ?_
      walk_at "rd"
      rw [lw]
      have z := k H (Kp.refl _)
      rw [show decide (if (2 : Int) = 2 then 20 < its.length else 256 < (encB 2 its).length) = decide ((20 : Int) < (its.length : Int)) by
        rw [decide_eq_decide, if_pos rfl]; omega] at z
      exact z
end
/-! ### a page decoded -/
structure ItOk (D : Nat) (kd : Int) (it : Itm) : Prop where
  a0 : 0 ≤ it.a
  a1 : it.a < 256 ^ 4
  b0 : 0 ≤ it.b
  b1 : it.b < 256 ^ 4
  c0 : 0 ≤ it.c
  c1 : it.c < 256 ^ 4
  k : (kd = 1 ∧ ∃ pt pl, it.x = some (pt, pl) ∧ pt.length = D ∧ Crd pt ∧ Byt pl ∧ pl.length ≤ 255) ∨ (kd = 2 ∧ it.x = none)
theorem ItOk.kd {D : Nat} {kd : Int} {it : Itm} (h : ItOk D kd it) (hD : D ≤ 1000) : KdI kd it := by
  rcases h.k with ⟨e, pt, pl, ex, l, _, _, l2⟩ | ⟨e, ex⟩
  · exact .inl ⟨e, pt, pl, ex, by omega, by omega⟩
  · exact .inr ⟨e, ex⟩
def Dec (D : Nat) (v : List Int) (kd : Int) (its : List Itm) : Prop := (v = pad (encB kd its) ∧ (kd = 1 ∨ kd = 2) ∧ (∀ it ∈ its, ItOk D kd it) ∧ (encB kd its).length ≤ 256) ∨ (v = zeros ∧ kd = 1 ∧ its = [])
theorem Dec.kk {D : Nat} {v : List Int} {kd : Int} {its : List Itm} (h : Dec D v kd its) : kd = 1 ∨ kd = 2 := by
  rcases h with ⟨_, h, _⟩ | ⟨_, h, _⟩
  · exact h
  · exact .inl h
theorem Dec.ok {D : Nat} {v : List Int} {kd : Int} {its : List Itm} (h : Dec D v kd its) : ∀ it ∈ its, ItOk D kd it := by
  rcases h with ⟨_, _, h, _⟩ | ⟨_, _, h⟩
  · exact h
  · rw [h]; exact fun it z => by cases z
theorem Dec.fit {D : Nat} {v : List Int} {kd : Int} {its : List Itm} (h : Dec D v kd its) (hk : kd = 1 ∨ kd = 2) : (encB kd its).length ≤ 256 := by
  rcases h with ⟨_, _, _, h⟩ | ⟨_, rfl, rfl⟩
  · exact h
  · show (2 : Nat) ≤ 256; decide
theorem encB_ge {kd : Int} {its : List Itm} : 2 + 12 * its.length ≤ (encB kd its).length := by
  have z : ∀ l : List Itm, 12 * l.length ≤ (l.flatMap encI).length := fun l => by
    induction l with
    | nil => exact Nat.le_refl _
    | cons it l ih =>
      have e := encI_len it
      rw [List.flatMap_cons, List.length_append, List.length_cons, e]
      omega
  have := z its
  unfold encB; rw [List.length_cons, List.length_cons]; omega
/-- where the k-th item stands -/
def plc (its : List Itm) (k : Nat) : Nat := 2 + ((its.take k).flatMap encI).length
theorem pad_at {kd : Int} {its : List Itm} {k : Nat} {it : Itm} (e : its[k]? = some it) : ∃ T, pad (encB kd its) = (kd :: (its.length : Int) :: (its.take k).flatMap encI) ++ (encI it ++ T) := by
  refine ⟨(its.drop (k + 1)).flatMap encI ++ List.replicate (256 - (encB kd its).length) 0, ?_⟩
  have hk := (List.getElem?_eq_some_iff.mp e).1
  have h2 : its.drop k = it :: its.drop (k + 1) := by rw [List.drop_eq_getElem_cons hk, (List.getElem?_eq_some_iff.mp e).2]
  have z : its.flatMap encI = (its.take k).flatMap encI ++ (encI it ++ (its.drop (k + 1)).flatMap encI) := by
    conv => lhs; rw [← List.take_append_drop k its, List.flatMap_append, h2, List.flatMap_cons]
  unfold pad
  generalize List.replicate (256 - (encB kd its).length) (0 : Int) = Z
  rw [encB, z]
  simp only [List.cons_append, List.append_assoc]
theorem plc_succ {its : List Itm} {k : Nat} {it : Itm} (e : its[k]? = some it) : plc its (k + 1) = plc its k + (encI it).length := by
  unfold plc; rw [takes e, List.length_append]; omega
theorem plc_len (kd n : Int) (its : List Itm) (k : Nat) : (kd :: n :: (its.take k).flatMap encI).length = plc its k := by
  unfold plc; rw [List.length_cons, List.length_cons]; omega
theorem drop_pre {A : List Int} {B : List Int} {n : Nat} (i : Nat) (h : A.length = n) : (A ++ B).drop (n + i) = B.drop i := by
  rw [← List.drop_drop, ← h, List.drop_left]
theorem wn4_at {x y z : Int} {T : List Int} (hx : 0 ≤ x ∧ x < 256 ^ 4) (hy : 0 ≤ y ∧ y < 256 ^ 4) (hz : 0 ≤ z ∧ z < 256 ^ 4) :
    rn (((wn 4 x ++ wn 4 y ++ wn 4 z ++ T).drop 0).take 4) = x ∧ rn (((wn 4 x ++ wn 4 y ++ wn 4 z ++ T).drop 4).take 4) = y ∧ rn (((wn 4 x ++ wn 4 y ++ wn 4 z ++ T).drop 8).take 4) = z := by
  have l : ∀ x : Int, (wn 4 x).length = 4 := wn_len 4
  refine ⟨?_, ?_, ?_⟩
  · rw [List.drop_zero, List.append_assoc, List.append_assoc, List.take_left' (l x)]; exact rn_wn 4 _ hx.1 hx.2
  · rw [List.append_assoc, List.append_assoc, List.drop_left' (l x), List.take_left' (l y)]; exact rn_wn 4 _ hy.1 hy.2
  · rw [List.append_assoc, show (8 : Nat) = (wn 4 x ++ wn 4 y).length by rw [List.length_append, l, l], List.drop_left, List.take_left' (l z)]; exact rn_wn 4 _ hz.1 hz.2
section
variable {P : Program} {w : World} {K : PySem.W.Frag} {mg : Str → Option Value} {base : Heap} {c : Cl}
def sp_KeyTree_load (c : Cl) (K : PySem.W.Frag) : Sp := fun vs H Q _ => ∃ (kt p q : Addr) (r : Int) (D : Nat) (n kd : Int) (its : List Itm) (O Od : Addr → Prop) (s : PgS), vs = [.ref kt, .int n] ∧ KtA c H kt p r D ∧ PagAt c H p q O Od s ∧ Dec D (gpg s n) kd its ∧ D ≤ 8 ∧
  ∀ H' t l ws, Kp F0 H H' → H' t = some (.tup [.int kd, .ref l]) → H l = none → H' l = some (.lst ws) → ItVs K H' ws its → Q (.ref t) H'
theorem ok_KeyTree_load (T : Txt K mg c) : GM P w K mg base CX0 4 c.KeyTree "load" (sp_KeyTree_load c K) := by
  obtain ⟨f, fd, F, gf, gi⟩ := T.f_KeyTree_load
  obtain ⟨_, mg_INNER⟩ := T.m_INNER
  obtain ⟨_, mg_LEAF⟩ := T.m_LEAF
  obtain ⟨_, mg_CHILD_SIZE⟩ := T.m_CHILD_SIZE
  have tc_KeyTree := T.cl_KeyTree; have tn_KeyTree_pager := T.n_KeyTree_pager; have tn_KeyTree_root := T.n_KeyTree_root; have tn_KeyTree_dimensions := T.n_KeyTree_dimensions
  have tc_Pager := T.cl_Pager; have tn_Pager_device := T.n_Pager_device; have tn_Pager_committed := T.n_Pager_committed; have tn_Pager_dirty := T.n_Pager_dirty
  refine ⟨f, fd, ["self", "number"], F.ok sc_KeyTree_load ?_ (fun cdv A outer s0 H vs Q E hr h => ?_), ⟨gf, gi, F.kp⟩, (F.binds (ps := ["self", "number"]) fun _ _ _ _ _ _ us hl => match us, hl with | [_, _], _ => rfl)⟩
  · rintro vs H Q E ⟨_, _, _, _, _, _, _, _, _, _, _, rfl, _⟩
    rfl
  · obtain ⟨kt, p, q, r, D, n, kd, its, O, Od, s, rfl, hk, hP, hd, hD, k⟩ := h
    obtain ⟨dx, ho⟩ := hk.o
    obtain ⟨⟨dy, a1, a2, y1, y2, DP⟩, _⟩ := id hP
    have hop := DP.o
    have hok := hd.ok
    -- the first two bytes
    have b0 : ∃ k0 : Int, (gpg s n)[0]? = some k0 ∧ (gpg s n)[1]? = some (its.length : Int) ∧ (k0 = 1 ↔ kd = 1 ∧ its ≠ []  ∨ k0 = 1) ∧ (k0 = 2 ↔ kd = 2) ∧ (its ≠ [] → k0 = kd) := by
      rcases hd with ⟨e, h12, _, _⟩ | ⟨e, rfl, rfl⟩
      · rw [e]
        exact ⟨kd, rfl, rfl, ⟨fun z => .inr z, fun z => z.elim (fun y => y.1) id⟩, Iff.rfl, fun _ => rfl⟩
      · rw [e]
        exact ⟨0, rfl, rfl, ⟨fun z => .inr z, fun z => z.elim (fun y => absurd rfl y.2) id⟩, ⟨fun z => absurd z (by decide), fun z => absurd z (by decide)⟩, fun z => absurd rfl z⟩
    obtain ⟨k0, g0, g1, _, g2, g3⟩ := b0
    have lz : its.length ≤ 21 := by
      have z := hd.fit hd.kk
      have := encB_ge (kd := kd) (its := its)
      omega
    refine ⟨_, (pss_cons (ps_set (i := 2) sc_KeyTree_load.nd rfl (Or.inr rfl) (pe_gm T.cl_Pager (ok_Pager_read T) (pe_fldK rfl (pv 0)) (hr.mono (by decide)) pass0S (pa_cons (pv 1) pa_nil)))
      (pss_cons (ps_set (i := 3) sc_KeyTree_load.nd rfl (Or.inl rfl) (pe_lst pa_nil))
      (pss_cons (ps_set (i := 4) sc_KeyTree_load.nd rfl (Or.inr rfl) pe_int)
      (pss_cons (ps_for PassesOwn.never rfl (pi_range1 (by rfl) T.z_range (pa_cons (pe_ix (r := rIxL K) ix_list (pv 2) pe_int (fun _ _ => rfl)) pa_nil)) (pg_name (i := 5) sc_KeyTree_load.nd rfl (Or.inl rfl)) (pss_cons (ps_set (i := 6) sc_KeyTree_load.nd rfl (Or.inl rfl) (pe_callTy (r := rTupQ K) c_tuple (by rfl) T.z_tuple (by decide +kernel) (pa_cons (pe_lc (own := [("i", 9)]) (g := (gName 9)) (tt := tYes) rfl sc_KeyTree_load.nd (pi_range1 (by rfl) T.z_range (pa_cons pe_int pa_nil)) (blkOk_by (N := ["self", "number", "data", "items", "place", "k", "numbers", "point", "stop", "i"]) (sc := defScope s_KeyTree_load) (by decide +kernel)) (fun _ _ _ _ _ => (pg_name (i := 9) sc_KeyTree_load.nd rfl (Or.inl rfl))) (fun _ _ _ _ _ => pts_nil) (fun _ _ _ _ _ => (pe_g (ok_read_number T) (hr.mono (by decide)) pass0S (pa_cons (pv 2) (pa_cons (pe_op op_add (pv 4) (pe_op op_mul pe_int (pv 9))) (pa_cons pe_int pa_nil)))))) pa_nil)))
      (pss_cons (ps_aug (i := 4) sc_KeyTree_load.nd rfl (Or.inr rfl) (pe_glob (v := .int 12) rfl mg_CHILD_SIZE ⟨_, rfl⟩) ip_add)
      (pss_one (ps_if (pt_cmpR op_eq (pe_ix (r := rIxL K) ix_list (pv 2) pe_int (fun _ _ => rfl)) (pe_glob (v := .int 1) rfl mg_LEAF ⟨_, rfl⟩) (nomark _)) (pss_cons (ps_set (i := 7) sc_KeyTree_load.nd rfl (Or.inl rfl) (pe_g (ok_read_point T) (hr.mono (by decide)) pass0S (pa_cons (pv 2) (pa_cons (pv 4) (pa_cons (pe_fldK rfl (pv 0)) pa_nil)))))
      (pss_cons (ps_aug (i := 4) sc_KeyTree_load.nd rfl (Or.inr rfl) (pe_op op_mul pe_int (pe_fldK rfl (pv 0))) ip_add)
      (pss_cons (ps_set (i := 8) sc_KeyTree_load.nd rfl (Or.inl rfl) (pe_op op_add (pe_op op_add (pv 4) pe_int) (pe_ix (r := rIxL K) ix_list (pv 2) (pv 4) (fun _ _ => rfl))))
      (pss_cons (ps_expr (pe_kBM rfl (pe_bm PySem.F.plainAttrs_list PySem.F.slot_list_append PySem.F.type_list_append mt_append (pv 3) (pa_cons (pe_op (r := rCatA K) op_catA (pv 6) (pe_tup (pa_cons (pv 7) (pa_cons (pe_callTy (r := rTupQ K) c_tuple (by rfl) T.z_tuple (by decide +kernel) (pa_cons (pe_slice (r := rSlL K) sl_list (pv 2) (po_some (pe_op op_add (pv 4) pe_int)) (po_some (pv 8))) pa_nil)) pa_nil)))) pa_nil))))
      (pss_one (ps_set (i := 4) sc_KeyTree_load.nd rfl (Or.inr rfl) (pv 8))))))) (pss_one (ps_expr (pe_kBM rfl (pe_bm PySem.F.plainAttrs_list PySem.F.slot_list_append PySem.F.type_list_append mt_append (pv 3) (pa_cons (pv 6) pa_nil))))))))))
      (pss_one (ps_ret (pe_tup (pa_cons (pe_ifExp (pt_cmpR op_eq (pe_ix (r := rIxL K) ix_list (pv 2) pe_int (fun _ _ => rfl)) (pe_glob (v := .int 2) rfl mg_INNER ⟨_, rfl⟩) (nomark _)) (pe_glob (v := .int 2) rfl mg_INNER ⟨_, rfl⟩) (pe_glob (v := .int 1) rfl mg_LEAF ⟨_, rfl⟩)) (pa_cons (pv 3) pa_nil))))))))), ?_⟩
    walk_at "cx"
    walk_at "rd"
    refine ⟨p, q, O, Od, s, n, rfl, hP, fun b H1 hb k1 e1 => ?_⟩
    walk_at "rd"
    refine x_newL fun l H2 hl k2 e2 => ?_
    have e12 := k2.get e1 id
    walk_at "rd"
    refine x_ixL (v := .int its.length) (SqL.of e12) (atI_at 1 rfl (by rw [List.getElem?_map, g1]; rfl)) ?_
    walk_at "rd"
    refine wfor Wk.rng (fun k σ H' => ∃ ws u5 u6 u7 u8, σ = [some (.ref kt), some (.int n), some (.ref b), some (.ref l), some (.int (plc its k)), u5, u6, u7, u8, none] ∧ H' l = some (.lst ws) ∧ ItVs K H' ws (its.take k) ∧ Kp F0 H1 H')
      ⟨[], none, none, none, none, rfl, e2, .nil, k2⟩ (fun _ _ _ _ => trivial) ?_ ?_
    · rintro i x σ H3 ex ⟨ws, u5, u6, u7, u8, rfl, e3, hv, k3⟩
      obtain ⟨hi, rfl⟩ := rgl_at ex
      have hi' : i < its.length := hi
      obtain ⟨it, ei⟩ : ∃ it, its[i]? = some it := ⟨_, List.getElem?_eq_getElem hi'⟩
      have io := hok it (List.mem_of_getElem? ei)
      have ne : its ≠ [] := fun z => by rw [z] at hi'; exact absurd hi' (by simp)
      have kk := g3 ne
      have ev : gpg s n = pad (encB kd its) := by
        rcases hd with ⟨e, _⟩ | ⟨_, _, e⟩
        · exact e
        · exact absurd e ne
      obtain ⟨Z, eZ⟩ := pad_at (kd := kd) ei
      rw [← ev] at eZ
      have lA := plc_len kd (its.length : Int) its i
      have e13 := k3.get e1 id
      have ho3 := k3.get (k1.get ho id) id
      walk_at "rd"
      have three : ∀ j : Nat, j < 3 → rn (((gpg s n).drop (plc its i + 4 * j)).take 4) = [it.a, it.b, it.c].getD j 0 := fun j hj => by
        rw [eZ, drop_pre _ lA]
        obtain ⟨q1, q2, q3⟩ := wn4_at (T := tailI it.x ++ Z) ⟨io.a0, io.a1⟩ ⟨io.b0, io.b1⟩ ⟨io.c0, io.c1⟩
        have eq : encI it ++ Z = wn 4 it.a ++ wn 4 it.b ++ wn 4 it.c ++ (tailI it.x ++ Z) := by unfold encI; rw [List.append_assoc]
        rw [eq]
        rcases (by omega : j = 0 ∨ j = 1 ∨ j = 2) with rfl | rfl | rfl
        · exact q1
        · exact q2
        · exact q3
      refine wlcP (ys := [.int it.a, .int it.b, .int it.c]) Wk.rng (by rw [rgl_len]; rfl) (by rw [rgl_len]; decide) (fun _ _ => trivial) (fun j x y H' R ex ey kp hR => ?_) (fun L H4 hL k4 hL4 => ?_)
      · obtain ⟨hj, rfl⟩ := rgl_at ex
        have hj' : j < 3 := hj
        walk_at "rd"
        refine ⟨rfl, ?_⟩
        walk_at "rd"
        refine ⟨b, gpg s n, plc its i + 4 * j, 4, by rw [show (plc its i : Int) + 4 * (0 + (j : Int)) = ((plc its i + 4 * j : Nat) : Int) by omega]; rfl, SqL.of (kp.get e13 id), fun H5 k5 => ?_⟩
        rw [three j hj']
        have q := hR H5 k5
        rcases (by omega : j = 0 ∨ j = 1 ∨ j = 2) with rfl | rfl | rfl <;> (cases ey; exact q)
      walk_at "rd"
      refine x_tupL (SqL.of hL4) fun t1 H5 ht1 k5 e5 => ?_
      have k35 : Kp F0 H3 H5 := k4.trans k5 fun _ z => z.elim
      have e15 := k35.get e13 id
      have ho5 := k35.get ho3 id
      have e35 := k35.get e3 id
      walk_at "rd"
      refine x_augv rfl ?_
      walk_at "rd"
      refine x_ipI ?_
      walk_at "rd"
      refine x_ixL (v := .int k0) (SqL.of e15) (atI_at 0 rfl (by rw [List.getElem?_map, g0]; rfl)) ?_
      walk_at "rd"
      have lI := encI_len it
      have ps := plc_succ ei
      have lws := hv.length
      rw [List.length_take] at lws
      have tk1 : its.take (i + 1) = its.take i ++ [it] := by rw [List.take_succ, ei]; rfl
      rcases io.k with ⟨k1', pt, pl, ex, lp, cp, bp, l255⟩ | ⟨k2', ex⟩
      · refine if_dtt (kk.trans k1') ?_
        walk_at "rd"
        have eI : gpg s n = (kd :: (its.length : Int) :: (its.take i).flatMap encI) ++ (wn 4 it.a ++ wn 4 it.b ++ wn 4 it.c) ++ wp pt ++ ((pl.length : Int) :: (pl ++ Z)) := by
          rw [eZ]; unfold encI; rw [ex]; unfold tailI; simp only [List.append_assoc, List.cons_append]
        have lB : ((kd :: (its.length : Int) :: (its.take i).flatMap encI) ++ (wn 4 it.a ++ wn 4 it.b ++ wn 4 it.c)).length = plc its i + 12 := by
          rw [List.length_append, lA]; simp only [List.length_append, wn_len]
        have lC : ((kd :: (its.length : Int) :: (its.take i).flatMap encI) ++ (wn 4 it.a ++ wn 4 it.b ++ wn 4 it.c) ++ wp pt).length = plc its i + 12 + 2 * D := by
          rw [List.length_append, lB, wp_len, lp]
        have erp : rp (gpg s n) (plc its i + 12) D = pt := by
          rw [eI, ← lB, ← lp]; exact rp_wp cp _ _
        have gpl : (gpg s n)[plc its i + 12 + 2 * D]? = some (pl.length : Int) := by
          rw [eI, ← lC, List.getElem?_append_right (Nat.le_refl _), Nat.sub_self]; rfl
        have epl : ((gpg s n).drop (plc its i + 12 + 2 * D + 1)).take pl.length = pl := by
          rw [eI, drop_pre 1 lC, List.drop_succ_cons, List.drop_zero, List.take_left]
        refine ⟨b, gpg s n, plc its i + 12, D, rfl, by omega, SqL.of e15, fun p1 H6 hp1 k6 e6 => ?_⟩
        rw [erp] at e6
        have ho6 := k6.get ho5 id
        have e16 := k6.get e15 id
        walk_at "rd"
        refine x_augv rfl ?_
        walk_at "rd"
        refine x_ipI ?_
        walk_at "rd"
        refine x_ixL (v := .int pl.length) (SqL.of e16) (atI_at (plc its i + 12 + 2 * D) (by omega) (by rw [List.getElem?_map, gpl]; rfl)) ?_
        walk_at "rd"
        have e36 := k6.get e35 id
        have e56 := k6.tup e5
        walk_at "rd"
        refine x_slL (SqL.of e16) fun l7 H7 hl7 k7 e7 => ?_
        rw [cut_mid (by omega) (by omega), show ((plc its i : Int) + 12 + 2 * (D : Int) + 1).toNat = plc its i + 12 + 2 * D + 1 by omega, show ((plc its i : Int) + 12 + 2 * (D : Int) + 1 + (pl.length : Int) - ((plc its i : Int) + 12 + 2 * (D : Int) + 1)).toNat = pl.length by omega, epl] at e7
        walk_at "rd"
        refine x_tupL (SqL.of e7) fun p2 H8 hp2 k8 e8 => ?_
        walk_at "rd"
        refine x_newT fun t2 H9 ht2 k9 e9 => ?_
        have k69 : Kp F0 H6 H9 := (k7.trans k8 fun _ z => z.elim).trans k9 fun _ z => z.elim
        walk_at "rd"
        refine x_catT (SqT.of (k69.tup e56)) (SqT.of e9) (Nat.le_of_ble_eq_true rfl) fun t3 H10 k10 e10 => ?_
        have k610 : Kp F0 H6 H10 := k69.trans k10 fun _ z => z.elim
        walk_at "rd"
        refine x_app (k610.get e36 id) (by omega) fun H11 e11 k11 => ?_
        walk_at "rd"
        have kz : Kp F0 H3 H10 := (k35.trans k6 fun _ z => z.elim).trans k610 fun _ z => z.elim
        have kall : Kp (F1 l) H3 H11 := (kz.mono fun _ z => z.elim).trans k11 fun _ z => .inl z
        refine ⟨_, some (.int (0 + (i : Int))), some (.ref t1), some (.ref p1), some (.int ((plc its i : Int) + 12 + 2 * (D : Int) + 1 + (pl.length : Int))), ?_, e11, ?_, fun x o hx _ => ?_⟩
        · have ez : (plc its i : Int) + 12 + 2 * (D : Int) + 1 + (pl.length : Int) = ((plc its (i + 1) : Nat) : Int) := by rw [ps, lI, ex]; show _ = ((plc its i + (12 + (2 * pt.length + 1 + pl.length)) : Nat) : Int); rw [lp]; push_cast; omega
          rw [← ez]; rfl
        · rw [tk1]
          refine pr_app (hv.mono fun _ _ z => z.kp kall) (.cons ⟨t3, rfl, ?_⟩ .nil)
          rw [ex]
          refine ⟨p1, p2, k11.sqT e10, k11.sqT (k610.sqT (SqT.of e6)), k11.sqT ((k9.trans k10 fun _ z => z.elim).sqT (SqT.of e8))⟩
        · exact k11.get (kz.get (k3.get hx id) id) (ne_of_none hx hl)
      · refine if_dff (by rw [kk, k2']; decide) ?_
        walk_at "rd"
        refine x_app e35 (by omega) fun H6 e6 k6 => ?_
        walk_at "rd"
        have kall : Kp (F1 l) H3 H6 := (k35.mono fun _ z => z.elim).trans k6 fun _ z => .inl z
        refine ⟨_, some (.int (0 + (i : Int))), some (.ref t1), u7, u8, ?_, e6, ?_, fun x o hx _ => ?_⟩
        · have ez : (plc its i : Int) + 12 = ((plc its (i + 1) : Nat) : Int) := by rw [ps, lI, ex]; rfl
          rw [← ez]; rfl
        · rw [tk1]
          refine pr_app (hv.mono fun _ _ z => z.kp kall) (.cons ⟨t1, rfl, ?_⟩ .nil)
          rw [ex]; exact SqT.of (k6.tup e5)
        · exact k6.get (k35.get (k3.get hx id) id) (ne_of_none hx hl)
    · rintro σ H3 ⟨ws, u5, u6, u7, u8, rfl, e3, hv, k3⟩
      have e13 := k3.get e1 id
      have lr : (rgl 0 (its.length : Int).toNat).length = its.length := by rw [rgl_len]; omega
      rw [lr, List.take_length] at hv
      walk_at "rd"
      refine x_ixL (v := .int k0) (SqL.of e13) (atI_at 0 rfl (by rw [List.getElem?_map, g0]; rfl)) ?_
      walk_at "rd"
      have fin : ∀ H4 t, Kp F0 H3 H4 → H4 t = some (.tup [.int kd, .ref l]) → Q (.ref t) H4 := fun H4 t k4 e4 =>
        k H4 t l ws ((k1.trans k3 fun _ z => z.elim).trans k4 fun _ z => z.elim) e4 (k1.free hl id) (k4.get e3 id) (hv.mono fun _ _ z => z.kp k4)
      refine ite_dec (fun e => ?_) fun e => ?_
      · walk_at "rd"
        refine x_newT fun t H4 ht k4 e4 => ?_
        exact fin H4 t k4 (by rw [e4, g2.mp e])
      · walk_at "rd"
        refine x_newT fun t H4 ht k4 e4 => ?_
        refine fin H4 t k4 ?_
        rw [e4]
        rcases hd.kk with z | z
        · rw [z]
        · exact absurd (g2.mpr z) e
end
theorem cutW_to {xs : List V} {j : Nat} (h : j ≤ xs.length) : cutV xs none (some (j : Int)) = xs.take j := by
  unfold cutV
  rw [HT.sIx_none, HT.sIx_nat, List.drop_zero, Nat.sub_zero, Nat.min_eq_left h]
theorem cutW_from {xs : List V} {j : Nat} (h : j ≤ xs.length) : cutV xs (some (j : Int)) none = xs.drop j := by
  unfold cutV
  rw [HT.sIx_none, HT.sIx_nat, Nat.min_eq_left h, List.take_of_length_le (by simp)]
def pLt (a b x y : Int) : Bool := decide (a < x ∨ a = x ∧ b < y)
def pLe (a b x y : Int) : Bool := decide (a < x ∨ a = x ∧ b ≤ y)
theorem lex_pLt (a b x y : Int) : HT.lexLt [a, b] [x, y] = pLt a b x y := by
  unfold pLt HT.lexLt HT.lexLt HT.lexLt
  by_cases e : a = x
  · rw [if_pos e]
    by_cases f : b = y
    · rw [if_pos f]; symm; rw [decide_eq_false_iff_not]; omega
    · rw [if_neg f, decide_eq_decide]; omega
  · rw [if_neg e, decide_eq_decide]; omega
theorem lex_pLe (a b x y : Int) : Ob.lexAt (fun j => decide ([a, b].getD j 0 = [x, y].getD j 0)) (fun j => decide ([a, b].getD j 0 ≤ [x, y].getD j 0)) (decide ([a, b].length ≤ [x, y].length)) 0 (min [a, b].length [x, y].length) = pLe a b x y := by
  show Ob.lexAt _ _ _ 0 2 = _
  rw [Ob.lexAt_succ, Ob.lexAt_succ, Ob.lexAt_zero]
  unfold pLe
  show (if decide (a = x) = true then (if decide (b = y) = true then decide ((2 : Nat) ≤ 2) else decide (b ≤ y)) else decide (a ≤ x)) = _
  by_cases e : a = x
  · rw [if_pos (by simpa using e)]
    by_cases f : b = y
    · rw [if_pos (by simpa using f), decide_eq_decide]
      exact ⟨fun _ => .inr ⟨e, by omega⟩, fun _ => Nat.le_refl _⟩
    · rw [if_neg (by simpa using f), decide_eq_decide]; omega
  · rw [if_neg (by simpa using e), decide_eq_decide]; omega
/-! ### how many items go to the first half -/
def hcnt (S : Nat) : List Nat → Nat → Nat
  | [], _ => 0
  | x :: r, a => if 2 * (a + x) ≤ S then hcnt S r (a + x) + 1 else 0
def isz (its : List Itm) : List Nat := its.map fun it => (encI it).length
def hk (its : List Itm) : Nat := hcnt (isz its).sum (isz its) 0
theorem hcnt_go {S : Nat} {sz : List Nat} {i : Nat} (hS : hcnt S sz 0 = i + hcnt S (sz.drop i) (sz.take i).sum) (hi : i < sz.length) :
    (2 * ((sz.take i).sum + sz[i]) ≤ S → hcnt S sz 0 = (i + 1) + hcnt S (sz.drop (i + 1)) (sz.take (i + 1)).sum) ∧ (¬ 2 * ((sz.take i).sum + sz[i]) ≤ S → hcnt S sz 0 = i) := by
  have e : sz.drop i = sz[i] :: sz.drop (i + 1) := List.drop_eq_getElem_cons hi
  have t : (sz.take (i + 1)).sum = (sz.take i).sum + sz[i] := by rw [List.take_succ, List.getElem?_eq_getElem hi, List.sum_append]; show _ + (sz[i] + 0) = _; omega
  rw [e] at hS
  constructor
  · intro h
    rw [hS, t]
    show i + (if 2 * ((sz.take i).sum + sz[i]) ≤ S then hcnt S (sz.drop (i + 1)) ((sz.take i).sum + sz[i]) + 1 else 0) = _
    rw [if_pos h]; omega
  · intro h
    rw [hS]
    show i + (if 2 * ((sz.take i).sum + sz[i]) ≤ S then hcnt S (sz.drop (i + 1)) ((sz.take i).sum + sz[i]) + 1 else 0) = _
    rw [if_neg h]; rfl
/-- the child to which a pair belongs -/
def cplc (k b : Int) : List Itm → Nat → Nat → Nat
  | [], _, m => m
  | it :: r, i, m => cplc k b r (i + 1) (if pLe it.a it.b k b = true then i else m)
def cpl (its : List Itm) (k b : Int) : Nat := cplc k b its 0 0
section
variable {P : Program} {w : World} {K : PySem.W.Frag} {mg : Str → Option Value} {base : Heap} {c : Cl}
def sp_KeyTree_halves (c : Cl) (K : PySem.W.Frag) : Sp := fun vs H Q _ => ∃ (kt p : Addr) (r D kd : Int) (l : Addr) (ws : List V) (its : List Itm), vs = [.ref kt, .int kd, .ref l] ∧ KtA c H kt p r D ∧ H l = some (.lst ws) ∧ ItVs K H ws its ∧ (∀ it ∈ its, KdI kd it) ∧ 0 < its.length ∧ its.length ≤ 1000 ∧
  (hk its ≤ its.length → ∀ H' t l1 l2, Kp F0 H H' → H' t = some (.tup [.ref l1, .ref l2]) → H l1 = none → H l2 = none → l1 ≠ l2 → H' l1 = some (.lst (ws.take (hk its))) → H' l2 = some (.lst (ws.drop (hk its))) → Q (.ref t) H')
theorem ok_KeyTree_halves (T : Txt K mg c) : GM P w K mg base CX0 5 c.KeyTree "halves" (sp_KeyTree_halves c K) := by
  obtain ⟨f, fd, F, gf, gi⟩ := T.f_KeyTree_halves
  have tc_KeyTree := T.cl_KeyTree; have tn_KeyTree_pager := T.n_KeyTree_pager; have tn_KeyTree_root := T.n_KeyTree_root; have tn_KeyTree_dimensions := T.n_KeyTree_dimensions
  refine ⟨f, fd, ["self", "kind", "items"], F.ok sc_KeyTree_halves ?_ (fun cdv A outer s0 H vs Q E hr h => ?_), ⟨gf, gi, F.kp⟩, (F.binds (ps := ["self", "kind", "items"]) fun _ _ _ _ _ _ us hl => match us, hl with | [_, _, _], _ => rfl)⟩
  · rintro vs H Q E ⟨_, _, _, _, _, _, _, _, rfl, _⟩
    rfl
  · obtain ⟨kt, p, r, D, kd, l, ws, its, rfl, hkt, hl, hv, hkd, l0, lz, k⟩ := h
    obtain ⟨dx, ho⟩ := hkt.o
    have lw := hv.length
    refine ⟨_, (pss_cons (ps_setLc (i := 3) (own := [("item", 6)]) (g := (gName 6)) (tt := tYes) rfl sc_KeyTree_halves.nd rfl rfl (sw_true rfl rfl rfl (by decide +kernel)) (pi_listK rfl (pv 2)) (blkOk_by (N := ["self", "kind", "items", "sizes", "count", "size", "item"]) (sc := defScope s_KeyTree_halves) (by decide +kernel)) (fun _ _ _ _ _ => (pg_name (i := 6) sc_KeyTree_halves.nd rfl (Or.inl rfl))) (fun _ _ _ _ _ => pts_nil) (fun _ _ _ _ _ => (pe_callB (r := rLenQ K) c_len (by rfl) T.z_len PySem.boot_len (pa_cons (pe_gm T.cl_KeyTree (ok_KeyTree_write_item T) (pv 0) (hr.mono (by decide)) pass0S (pa_cons (pv 1) (pa_cons (pv 6) pa_nil))) pa_nil))))
      (pss_cons (ps_set (i := 4) sc_KeyTree_halves.nd rfl (Or.inl rfl) pe_int)
      (pss_cons (ps_set (i := 5) sc_KeyTree_halves.nd rfl (Or.inl rfl) pe_int)
      (pss_cons (ps_while PassesOwn.never (pt_cmpR op_le (pe_op op_mul pe_int (pe_op op_add (pv 5) (pe_ix (r := rIxL K) ix_list (pv 3) (pv 4) (fun _ _ => rfl)))) (pe_callB (r := rSum K) (cr_sum rfl) (by rfl) T.z_sum (by decide +kernel) (pa_cons (pv 3) pa_nil)) (nomark _)) (pss_cons (ps_aug (i := 5) sc_KeyTree_halves.nd rfl (Or.inl rfl) (pe_ix (r := rIxL K) ix_list (pv 3) (pv 4) (fun _ _ => rfl)) ip_add)
      (pss_one (ps_aug (i := 4) sc_KeyTree_halves.nd rfl (Or.inl rfl) pe_int ip_add))))
      (pss_one (ps_ret (pe_tup (pa_cons (pe_slice (r := rSlL K) sl_list (pv 2) po_none (po_some (pv 4))) (pa_cons (pe_slice (r := rSlL K) sl_list (pv 2) (po_some (pv 4)) po_none) pa_nil))))))))), ?_⟩
    walk_at "cx"
    walk_at "rd"
    refine wlcP (ys := (isz its).map fun n : Nat => V.int (n : Int)) (Wk.list (xs := ws)) (by unfold isz; rw [List.length_map, List.length_map, lw]) (by omega) (fun H' s => SqL.of (s.get hl id)) (fun i x y H' R ex ey kp hR => ?_) (fun z H1 hz k1 e1 => ?_)
    · obtain ⟨it, ei, hit⟩ := pgt hv ex
      unfold isz at ey
      rw [List.getElem?_map, List.getElem?_map, ei] at ey
      cases ey
      have ho' := kp.get ho id
      walk_at "rd"
      refine ⟨rfl, ?_⟩
      walk_at "rd"
      refine ⟨kt, p, r, D, kd, x, it, rfl, hkt.kp kp id, hit.kp kp, hkd it (List.mem_of_getElem? ei), fun b H2 hb k2 e2 => ?_⟩
      walk_at "rd"
      rw [List.length_map]
      exact hR H2 k2
    · have ls : (isz its).length = its.length := by unfold isz; rw [List.length_map]
      have e1' : H1 z = some (.lst (((isz its).map fun n : Nat => (n : Int)).map V.int)) := by rw [e1, List.map_map]; rfl
      have pos : 0 < (isz its).sum := by
        unfold isz
        cases its with
        | nil => exact absurd l0 (by decide)
        | cons it r =>
          have := encI_len it
          rw [List.map_cons, List.sum_cons]; omega
      walk_at "rd"
      refine x_wh (fun m σ H' => ∃ i : Nat, m = its.length - i ∧ σ = [some (.ref kt), some (.int kd), some (.ref l), some (.ref z), some (.int i), some (.int ((isz its).take i).sum), none] ∧ Kp F0 H1 H' ∧ i ≤ its.length ∧ hk its = i + hcnt (isz its).sum ((isz its).drop i) ((isz its).take i).sum ∧ (2 * ((isz its).take i).sum ≤ (isz its).sum)) ?_ ?_
      · exact ⟨_, 0, rfl, rfl, Kp.refl _, Nat.zero_le _, by unfold hk; simp, by simp⟩
      · rintro m σ H2 ⟨i, rfl, rfl, k2, hi, hh, hs⟩
        have hi' : i < its.length := by
          by_cases q : i < its.length
          · exact q
          · obtain rfl : i = its.length := by omega
            rw [List.take_of_length_le (by omega)] at hs
            omega
        have hi2 : i < (isz its).length := by omega
        obtain ⟨g1, g2⟩ := hcnt_go hh hi2
        have ez := k2.get e1' id
        walk_at "rd"
        refine x_ixL (v := .int ((isz its)[i] : Nat)) (SqL.of ez) (atI_at i rfl (by rw [List.getElem?_map, List.getElem?_map, List.getElem?_eq_getElem hi2]; rfl)) ?_
        walk_at "rd"
        refine x_sum (SqL.of ez) ?_
        have es : ((isz its).map fun n : Nat => (n : Int)).sum = ((isz its).sum : Nat) := by
          induction isz its with
          | nil => rfl
          | cons a t ih => rw [List.map_cons, List.sum_cons, List.sum_cons, ih]; push_cast; rfl
        rw [es]
        walk_at "rd"
        refine ite_dec (fun e => ?_) fun e => ?_
        · have e' : 2 * (((isz its).take i).sum + (isz its)[i]) ≤ (isz its).sum := by omega
          refine ⟨_, fun σ' H' z => ⟨its.length - (i + 1), by omega, z⟩, ?_⟩
          have tk : ((isz its).take (i + 1)).sum = ((isz its).take i).sum + (isz its)[i] := by rw [List.take_succ, List.getElem?_eq_getElem hi2, List.sum_append]; show _ + ((isz its)[i] + 0) = _; omega
          walk_at "rd"
          refine x_augv rfl ?_
          walk_at "rd"
          refine x_ixL (v := .int ((isz its)[i] : Nat)) (SqL.of ez) (atI_at i rfl (by rw [List.getElem?_map, List.getElem?_map, List.getElem?_eq_getElem hi2]; rfl)) ?_
          refine x_ipI ?_
          walk_at "rd"
          refine x_augv rfl ?_
          walk_at "rd"
          refine x_ipI ?_
          refine ⟨i + 1, rfl, ?_, k2, hi', g1 e', by rw [tk]; exact e'⟩
          rw [tk]
          rfl
        · have e' : ¬ 2 * (((isz its).take i).sum + (isz its)[i]) ≤ (isz its).sum := by omega
          have hki : hk its = i := g2 e'
          have k02 : Kp F0 H H2 := k1.trans k2 fun _ z => z.elim
          have hl2 := k02.get hl id
          walk_at "rd"
          refine x_slL (SqL.of hl2) fun l1 H3 hl1 k3 e3 => ?_
          rw [cutW_to (by omega)] at e3
          have hl3 := k3.get hl2 id
          walk_at "rd"
          refine x_slL (SqL.of hl3) fun l2 H4 hl2' k4 e4 => ?_
          rw [cutW_from (by omega)] at e4
          walk_at "rd"
          refine x_newT fun t H5 ht k5 e5 => ?_
          have k34 : Kp F0 H2 H4 := k3.trans k4 fun _ z => z.elim
          exact k (by omega) H5 t l1 l2 (k02.trans (k34.trans k5 fun _ z => z.elim) fun _ z => z.elim) e5 (k02.free hl1 id) (k02.free (k3.free hl2' id) id) (ne_of_none e3 hl2') (by rw [hki]; exact k5.get (k4.get e3 id) id) (by rw [hki]; exact k5.get e4 id)
def sp_KeyTree_child_place (c : Cl) (K : PySem.W.Frag) : Sp := fun vs H Q _ => ∃ (kt : Addr) (l t : Addr) (ws : List V) (its : List Itm) (kk bb : Int), vs = [.ref kt, .ref l, .ref t] ∧ H l = some (.lst ws) ∧ ItVs K H ws its ∧ SqT K H t [.int kk, .int bb] ∧ its.length ≤ 1000 ∧ ∀ H', Kp F0 H H' → Q (.int (cpl its kk bb : Nat)) H'
theorem cplc_snoc (k b : Int) (it : Itm) : ∀ (its : List Itm) (i m : Nat), cplc k b (its ++ [it]) i m = if pLe it.a it.b k b = true then i + its.length else cplc k b its i m
  | [], i, m => by
    show (if pLe it.a it.b k b = true then i else m) = _
    rfl
  | x :: its, i, m => by
    have h := cplc_snoc k b it its (i + 1) (if pLe x.a x.b k b = true then i else m)
    rw [List.cons_append, List.length_cons]
    conv => lhs; unfold cplc
    conv => rhs; unfold cplc
    rw [h, show i + 1 + its.length = i + (its.length + 1) by omega]
theorem ok_KeyTree_child_place (T : Txt K mg c) : GM P w K mg base CX0 2 c.KeyTree "child_place" (sp_KeyTree_child_place c K) := by
  obtain ⟨f, fd, F, gf, gi⟩ := T.f_KeyTree_child_place
  refine ⟨f, fd, ["self", "children", "pair"], F.ok sc_KeyTree_child_place ?_ (fun cdv A outer s0 H vs Q E hr h => ?_), ⟨gf, gi, F.kp⟩, (F.binds (ps := ["self", "children", "pair"]) fun _ _ _ _ _ _ us hl => match us, hl with | [_, _, _], _ => rfl)⟩
  · rintro vs H Q E ⟨_, _, _, _, _, _, _, rfl, _⟩
    rfl
  · obtain ⟨kt, l, t, ws, its, kk, bb, rfl, hl, hv, ht, lz, k⟩ := h
    have lw := hv.length
    refine ⟨_, (pss_cons (ps_set (i := 3) sc_KeyTree_child_place.nd rfl (Or.inl rfl) pe_int)
      (pss_cons (ps_for PassesOwn.never rfl (pi_range1 (by rfl) T.z_range (pa_cons (pe_callB (r := rLenQ K) c_len (by rfl) T.z_len PySem.boot_len (pa_cons (pv 1) pa_nil)) pa_nil)) (pg_name (i := 4) sc_KeyTree_child_place.nd rfl (Or.inl rfl)) (pss_one (ps_if (pt_cmpR (r := rLeT K) (op_leT hr.units0) (pe_g (ok_pair_of T) (hr.mono (by decide)) pass0S (pa_cons (pe_ix (r := rIxL K) ix_list (pv 1) (pv 4) (fun _ _ => rfl)) pa_nil)) (pv 2) (nomark _)) (pss_one (ps_set (i := 3) sc_KeyTree_child_place.nd rfl (Or.inl rfl) (pv 4))) pss_nil)))
      (pss_one (ps_ret (pv 3))))), ?_⟩
    walk_at "cx"
    walk_at "rd"
    rw [lw]
    walk_at "rd"
    refine wfor Wk.rng (fun i σ H' => ∃ u, σ = [some (.ref kt), some (.ref l), some (.ref t), some (.int (cpl (its.take i) kk bb : Nat)), u] ∧ Kp F0 H H')
      ⟨none, rfl, Kp.refl _⟩ (fun _ _ _ _ => trivial) ?_ ?_
    · rintro i x σ H2 ex ⟨u, rfl, k2⟩
      obtain ⟨hi, rfl⟩ := rgl_at ex
      have hi' : i < its.length := hi
      obtain ⟨it, ei⟩ : ∃ it, its[i]? = some it := ⟨_, List.getElem?_eq_getElem hi'⟩
      obtain ⟨v, ev, hit⟩ := pgetr hv ei
      have hl2 := k2.get hl id
      have tk : its.take (i + 1) = its.take i ++ [it] := by rw [List.take_succ, ei]; rfl
      walk_at "rd"
      refine x_ixL (v := v) (SqL.of hl2) (atI_at i (by omega) ev) ?_
      walk_at "rd"
      refine ⟨v, it, rfl, hit.kp k2, fun H3 p k3 e3 => ?_⟩
      walk_at "rd"
      refine ⟨p, t, [it.a, it.b], [kk, bb], rfl, rfl, e3, k3.sqT (k2.sqT ht), ?_⟩
      rw [lex_pLe]
      have k23 : Kp F0 H H3 := k2.trans k3 fun _ z => z.elim
      have es : cpl (its.take (i + 1)) kk bb = if pLe it.a it.b kk bb = true then i else cpl (its.take i) kk bb := by
        unfold cpl
        rw [tk, cplc_snoc, List.length_take, Nat.zero_add, Nat.min_eq_left (Nat.le_of_lt hi')]
      cases hp : pLe it.a it.b kk bb with
      | true =>
        rw [if_pos hp] at es
        walk_at "rd"
        refine ⟨some (.int (0 + (i : Int))), ?_, k23⟩
        rw [es, Int.zero_add]; rfl
      | false =>
        rw [if_neg (by rw [hp]; exact Bool.false_ne_true)] at es
        walk_at "rd"
        refine ⟨some (.int (0 + (i : Int))), ?_, k23⟩
        rw [es]; rfl
    · rintro σ H2 ⟨u, rfl, k2⟩
      have lr : (rgl 0 (its.length : Int).toNat).length = its.length := by rw [rgl_len]; omega
      rw [lr, List.take_length]
      walk_at "rd"
      exact k H2 k2
end
/-- the way from a page to a leaf -/
inductive Way (D : Nat) (v : Int → List Int) (k b : Int) : Int → List (Int × Nat) → Int → List Itm → Prop
  | leaf {n : Int} {its : List Itm} : Dec D (v n) 1 its → Way D v k b n [] n its
  | node {n m : Int} {its es : List Itm} {ch : Itm} {path : List (Int × Nat)} : Dec D (v n) 2 its → its[cpl its k b]? = some ch → Way D v k b ch.c path m es → Way D v k b n ((n, cpl its k b) :: path) m es
def PthV (K : PySem.W.Frag) (H : Hp) (v : V) (q : Int × Nat) : Prop := ∃ t, v = .ref t ∧ SqT K H t [.int q.1, .int (q.2 : Nat)]
theorem PthV.kp {K : PySem.W.Frag} {F : Addr → Prop} {H H' : Hp} {v : V} {q : Int × Nat} (k : Kp F H H') (h : PthV K H v q) : PthV K H' v q := by
  obtain ⟨t, rfl, h⟩ := h
  exact ⟨t, rfl, k.sqT h⟩
/-- a page that is read: what the next turn needs -/
def Cur (D : Nat) (v : Int → List Int) (k b n : Int) (path : List (Int × Nat)) (m : Int) (es : List Itm) (kd : Int) (its : List Itm) : Prop :=
  (path = [] ∧ kd = 1 ∧ n = m ∧ its = es) ∨ ∃ ch rest, path = (n, cpl its k b) :: rest ∧ kd = 2 ∧ its[cpl its k b]? = some ch ∧ its.length ≤ 1000 ∧ Way D v k b ch.c rest m es
theorem Dec.lz {D : Nat} {v : List Int} {kd : Int} {its : List Itm} (h : Dec D v kd its) : its.length ≤ 21 := by
  have z := h.fit h.kk
  have := encB_ge (kd := kd) (its := its)
  omega
theorem Way.cur {D : Nat} {v : Int → List Int} {k b n m : Int} {path : List (Int × Nat)} {es : List Itm} (h : Way D v k b n path m es) : ∃ kd its, Dec D (v n) kd its ∧ Cur D v k b n path m es kd its := by
  cases h with
  | leaf d => exact ⟨1, _, d, .inl ⟨rfl, rfl, rfl, rfl⟩⟩
  | node d e w => exact ⟨2, _, d, .inr ⟨_, _, rfl, rfl, e, by have := d.lz; omega, w⟩⟩
section
variable {P : Program} {w : World} {K : PySem.W.Frag} {mg : Str → Option Value} {base : Heap} {c : Cl}
def sp_KeyTree_path_to (c : Cl) (K : PySem.W.Frag) : Sp := fun vs H Q _ => ∃ (kt p q t : Addr) (r : Int) (D : Nat) (kk bb m : Int) (path : List (Int × Nat)) (es : List Itm) (O Od : Addr → Prop) (s : PgS), vs = [.ref kt, .ref t] ∧ KtA c H kt p r D ∧ PagAt c H p q O Od s ∧ SqT K H t [.int kk, .int bb] ∧ Way D (gpg s) kk bb r path m es ∧ path.length ≤ 1000 ∧ D ≤ 8 ∧
  ∀ H' t pl l pvs ws, Kp F0 H H' → H' t = some (.tup [.ref pl, .int m, .ref l]) → H pl = none → H l = none → pl ≠ l → H' pl = some (.lst pvs) → Paired (PthV K H') pvs path → H' l = some (.lst ws) → ItVs K H' ws es → Q (.ref t) H'
theorem ok_KeyTree_path_to (T : Txt K mg c) : GM P w K mg base CX0 5 c.KeyTree "path_to" (sp_KeyTree_path_to c K) := by
  obtain ⟨f, fd, F, gf, gi⟩ := T.f_KeyTree_path_to
  obtain ⟨_, mg_INNER⟩ := T.m_INNER
  have tc_KeyTree := T.cl_KeyTree; have tn_KeyTree_pager := T.n_KeyTree_pager; have tn_KeyTree_root := T.n_KeyTree_root; have tn_KeyTree_dimensions := T.n_KeyTree_dimensions
  refine ⟨f, fd, ["self", "pair"], F.ok sc_KeyTree_path_to ?_ (fun cdv A outer s0 H vs Q E hr h => ?_), ⟨gf, gi, F.kp⟩, (F.binds (ps := ["self", "pair"]) fun _ _ _ _ _ _ us hl => match us, hl with | [_, _], _ => rfl)⟩
  · rintro vs H Q E ⟨_, _, _, _, _, _, _, _, _, _, _, _, _, _, rfl, _⟩
    rfl
  · obtain ⟨kt, p, q, t, r, D, kk, bb, m, path, es, O, Od, s, rfl, hkt, hP, ht, way, lp, hD, k⟩ := h
    obtain ⟨dx, ho⟩ := hkt.o
    refine ⟨_, (pss_cons (ps_set (i := 2) sc_KeyTree_path_to.nd rfl (Or.inl rfl) (pe_lst pa_nil))
      (pss_cons (ps_set (i := 3) sc_KeyTree_path_to.nd rfl (Or.inl rfl) (pe_fldK rfl (pv 0)))
      (pss_cons (ps_asg (pe_gm T.cl_KeyTree (ok_KeyTree_load T) (pv 0) (hr.mono (by decide)) pass0S (pa_cons (pv 3) pa_nil)) (pg_kT rfl (pg_tup (n := 2) rfl (pgs_cons (pg_name (i := 4) sc_KeyTree_path_to.nd rfl (Or.inl rfl)) (pgs_cons (pg_name (i := 5) sc_KeyTree_path_to.nd rfl (Or.inl rfl)) pgs_nil)))))
      (pss_cons (ps_while PassesOwn.never (pt_cmpR op_eq (pv 4) (pe_glob (v := .int 2) rfl mg_INNER ⟨_, rfl⟩) (nomark _)) (pss_cons (ps_set (i := 6) sc_KeyTree_path_to.nd rfl (Or.inl rfl) (pe_gm T.cl_KeyTree (ok_KeyTree_child_place T) (pv 0) (hr.mono (by decide)) pass0S (pa_cons (pv 5) (pa_cons (pv 1) pa_nil))))
      (pss_cons (ps_expr (pe_kBM rfl (pe_bm PySem.F.plainAttrs_list PySem.F.slot_list_append PySem.F.type_list_append mt_append (pv 2) (pa_cons (pe_tup (pa_cons (pv 3) (pa_cons (pv 6) pa_nil))) pa_nil))))
      (pss_cons (ps_set (i := 3) sc_KeyTree_path_to.nd rfl (Or.inl rfl) (pe_ix (r := rIxT K) ix_tup (pe_ix (r := rIxL K) ix_list (pv 5) (pv 6) (fun _ _ => rfl)) pe_int (fun _ _ => rfl)))
      (pss_one (ps_asg (pe_gm T.cl_KeyTree (ok_KeyTree_load T) (pv 0) (hr.mono (by decide)) pass0S (pa_cons (pv 3) pa_nil)) (pg_kT rfl (pg_tup (n := 2) rfl (pgs_cons (pg_name (i := 4) sc_KeyTree_path_to.nd rfl (Or.inl rfl)) (pgs_cons (pg_name (i := 5) sc_KeyTree_path_to.nd rfl (Or.inl rfl)) pgs_nil))))))))))
      (pss_one (ps_ret (pe_tup (pa_cons (pv 2) (pa_cons (pv 3) (pa_cons (pv 5) pa_nil)))))))))), ?_⟩
    walk_at "cx"
    walk_at "rd"
    refine x_newL fun pl H1 hpl k1 e1 => ?_
    have ho1 := k1.get ho id
    walk_at "rd"
    obtain ⟨kd0, its0, dec0, cur0⟩ := way.cur
    refine ⟨kt, p, q, r, D, r, kd0, its0, O, Od, s, rfl, hkt.kp k1 id, hP.same k1, dec0, hD, fun H2 t2 l2 ws2 k2 e2 hl2 el2 hv2 => ?_⟩
    walk_at "rd"
    refine x_wh (fun mm σ H' => ∃ dn rest n kd l ws its pvs u, mm = rest.length ∧ path = dn ++ rest ∧ σ = [some (.ref kt), some (.ref t), some (.ref pl), some (.int n), some (.int kd), some (.ref l), u] ∧ H' pl = some (.lst pvs) ∧ Paired (PthV K H') pvs dn ∧ H l = none ∧ pl ≠ l ∧ H' l = some (.lst ws) ∧ ItVs K H' ws its ∧ Cur D (gpg s) kk bb n rest m es kd its ∧ Kp F0 H H') ?_ ?_
    · exact ⟨_, [], path, r, kd0, l2, ws2, its0, [], none, rfl, rfl, rfl, k2.get e1 id, .nil, k1.free hl2 id, ne_of_none e1 hl2, el2, hv2, cur0, k1.trans k2 fun _ z => z.elim⟩
    · rintro mm σ H3 ⟨dn, rest, n, kd, l, ws, its, pvs, u, rfl, ep, rfl, epl, hpv, fl, npl, el, hv, cur, k3⟩
      have ho3 := k3.get ho id
      walk_at "rd"
      rcases cur with ⟨rfl, rfl, rfl, rfl⟩ | ⟨ch, rest', rfl, rfl, ech, lz, wy⟩
      · rw [decide_eq_false (by decide)]
        walk_at "rd"
        refine x_newT fun t4 H4 ht4 k4 e4 => ?_
        rw [List.append_nil] at ep
        subst ep
        exact k H4 t4 pl l pvs ws (k3.trans k4 fun _ z => z.elim) e4 hpl fl npl (k4.get epl id) (hpv.mono fun _ _ z => z.kp k4) (k4.get el id) (hv.mono fun _ _ z => z.kp k4)
      · rw [decide_eq_true rfl]
        walk_at "rd"
        refine ⟨_, fun σ' H' z => ⟨rest'.length, Nat.lt_succ_self _, z⟩, ?_⟩
        walk_at "rd"
        refine ⟨kt, l, t, ws, its, kk, bb, rfl, el, hv, k3.sqT ht, lz, fun H4 k4 => ?_⟩
        have epl4 := k4.get epl id
        walk_at "rd"
        refine x_newT fun t5 H5 ht5 k5 e5 => ?_
        walk_at "rd"
        have lpv := hpv.length
        have lpath : path.length = dn.length + (rest'.length + 1) := by rw [ep, List.length_append, List.length_cons]
        refine x_app (k5.get epl4 id) (by omega) fun H6 e6 k6 => ?_
        have k46 : Kp (F1 pl) H3 H6 := ((k4.trans k5 fun _ z => z.elim).mono fun _ z => z.elim).trans k6 fun _ z => .inl z
        have k06 : Kp F0 H H6 := fun x o hx _ => k46.get (k3.get hx id) (ne_of_none hx hpl)
        have el6 := k46.get el npl.symm
        obtain ⟨v, ev, hch⟩ := pgetr hv ech
        obtain ⟨tc, rr, rfl, htc, _⟩ := (hch.kp k46).three
        walk_at "rd"
        refine x_ixL (v := .ref tc) (SqL.of el6) (atI_at _ rfl ev) ?_
        walk_at "rd"
        have ho6 := k06.get ho id
        refine x_ixT (v := .int ch.c) htc (atI_at 2 rfl rfl) ?_
        obtain ⟨kd', its', dec', cur'⟩ := wy.cur
        walk_at "rd"
        refine ⟨kt, p, q, r, D, ch.c, kd', its', O, Od, s, rfl, hkt.kp k06 id, hP.same k06, dec', hD, fun H7 t7 l7 ws7 k7 e7 hl7 el7 hv7 => ?_⟩
        walk_at "rd"
        refine ⟨dn ++ [(n, cpl its kk bb)], rest', ch.c, kd', l7, ws7, its', _, _, rfl, by rw [ep, List.append_assoc]; rfl, rfl, k7.get e6 id, pr_app (hpv.mono fun _ _ z => (z.kp k46).kp k7) (.cons ⟨t5, rfl, k7.sqT (k6.sqT (SqT.of e5))⟩ .nil), k06.free hl7 id, ne_of_none e6 hl7, el7, hv7, cur', k06.trans k7 fun _ z => z.elim⟩
end
def tooL (kd : Int) (its : List Itm) : Prop := if kd = 2 then 20 < its.length else 256 < (encB kd its).length
instance (kd : Int) (its : List Itm) : Decidable (tooL kd its) := by unfold tooL; infer_instance
def chI (a b c : Int) : Itm := ⟨a, b, c, none⟩
/-- what save asks of its items -/
structure SvI (kd : Int) (its : List Itm) (s : PgS) : Prop where
  k : ∀ it ∈ its, KdI kd it
  kk : kd = 1 ∨ kd = 2
  lz : its.length ≤ 900
  ds : s.dir.length ≤ 900000
  z0 : (gpg s 0).length = 256
/-- a save, step by step -/
inductive Sv (D : Nat) : List (Int × Nat) → Int → Int → List Itm → PgS → PgS → Prop
  | fit {path : List (Int × Nat)} {n kd : Int} {its : List Itm} {s : PgS} : SvI kd its s → ¬ tooL kd its → (encB kd its).length ≤ 256 → Sv D path n kd its s (pwr n (pad (encB kd its)) s)
  | root {n kd : Int} {its : List Itm} {s s1 s2 : PgS} {a b : Int} {f g : Itm} : SvI kd its s → tooL kd its → (its.take (hk its))[0]? = some f → (its.drop (hk its))[0]? = some g → (encB kd (its.take (hk its))).length ≤ 256 → (encB kd (its.drop (hk its))).length ≤ 256 →
      a = (palloc s).2 → s1 = pwr a (pad (encB kd (its.drop (hk its)))) (palloc s).1 → (gpg s1 0).length = 256 → b = (palloc s1).2 → s2 = pwr b (pad (encB kd (its.take (hk its)))) (palloc s1).1 →
      Sv D [] n kd its s (pwr n (pad (encB 2 [chI f.a f.b b, chI g.a g.b a])) s2)
  | up {path : List (Int × Nat)} {pl : Nat} {n kd par : Int} {its cs : List Itm} {s s1 s2 s' : PgS} {a : Int} {f g : Itm} : SvI kd its s → tooL kd its → (its.take (hk its))[0]? = some f → (its.drop (hk its))[0]? = some g → (encB kd (its.take (hk its))).length ≤ 256 → (encB kd (its.drop (hk its))).length ≤ 256 →
      a = (palloc s).2 → s1 = pwr a (pad (encB kd (its.drop (hk its)))) (palloc s).1 → s2 = pwr n (pad (encB kd (its.take (hk its)))) s1 → Dec D (gpg s2 par) 2 cs → pl < cs.length →
      Sv D path par 2 (cs.take (pl + 1) ++ [chI g.a g.b a] ++ cs.drop (pl + 1)) s2 s' → Sv D (path ++ [(par, pl)]) n kd its s s'
/-- the world of a key tree -/
structure KW (c : Cl) (H : Hp) (kt p q : Addr) (r : Int) (D : Nat) (O Od : Addr → Prop) (s : PgS) : Prop where
  ka : KtA c H kt p r D
  pg : PagAt c H p q O Od s
  nk : ¬ O kt
theorem KW.pure {c : Cl} {H H' : Hp} {kt p q : Addr} {r : Int} {D : Nat} {O Od : Addr → Prop} {s : PgS} (h : KW c H kt p q r D O Od s) (k : Kp F0 H H') : KW c H' kt p q r D O Od s := ⟨h.ka.kp k id, h.pg.same k, h.nk⟩
theorem KW.off {c : Cl} {F : Addr → Prop} {H H' : Hp} {kt p q : Addr} {r : Int} {D : Nat} {O Od : Addr → Prop} {s : PgS} (h : KW c H kt p q r D O Od s) (k : Kp F H H') (n1 : ∀ b, F b → ¬ O b) (n2 : ¬ F kt) : KW c H' kt p q r D O Od s := ⟨h.ka.kp k n2, h.pg.off k n1, h.nk⟩
theorem KW.pager {c : Cl} {H H' : Hp} {kt p q : Addr} {r : Int} {D : Nat} {O O' Od Od' : Addr → Prop} {s s' : PgS} (h : KW c H kt p q r D O Od s) (P : PagAt c H' p q O' Od' s') (t : Stp O O' H H') : KW c H' kt p q r D O' Od' s' := by
  obtain ⟨dx, o⟩ := h.ka.o
  exact ⟨h.ka.kp t.kp h.nk, P, t.kp0 o h.nk⟩
theorem chI_V {K : PySem.W.Frag} {H : Hp} {a b c : Int} {t : Addr} (h : SqT K H t [.int a, .int b, .int c]) : ItV K H (.ref t) (chI a b c) := ⟨t, rfl, h⟩
theorem chI_K {a b c : Int} : KdI 2 (chI a b c) := .inr ⟨rfl, rfl⟩
def rInsQ : V → List V → Hp → VK → Prop := fun x vs H Q => ∃ (l : Addr) (xs : List V) (i : Int) (y : V), x = .ref l ∧ vs = [.int i, y] ∧ H l = some (.lst xs) ∧ xs.length < sizeLine ∧ 0 ≤ i ∧ i < 2 ^ 63 ∧ Q .non (upd H l (.lst (xs.take i.toNat ++ [y] ++ xs.drop i.toNat)))
theorem x_ins {H : Hp} {Q : VK} {l : Addr} {xs : List V} {i : Nat} {j : Int} {y : V} (h : H l = some (.lst xs)) (ej : j = (i : Int)) (hz : xs.length < 16777216) (hi : i < 1000000) (q : ∀ H1, H1 l = some (.lst (xs.take i ++ [y] ++ xs.drop i)) → Kp (F1 l) H H1 → Q .non H1) : rInsQ (.ref l) [.int j, y] H Q :=
  ⟨l, xs, j, y, rfl, rfl, h, Nat.lt_of_lt_of_le hz (by decide), by omega, by omega, by subst ej; rw [Int.toNat_natCast]; exact q _ upd_same (Kp.put h id)⟩
theorem pr_snoc {α β : Type} {R : α → β → Prop} : ∀ {l : List α} {m : List β} {y : β}, Paired R l (m ++ [y]) → ∃ l' x, l = l' ++ [x] ∧ Paired R l' m ∧ R x y
  | _, [], _, .cons r .nil => ⟨[], _, rfl, .nil, r⟩
  | _, _ :: _, _, .cons r t => by
    obtain ⟨l', x, e, h, z⟩ := pr_snoc t
    exact ⟨_ :: l', x, by rw [e]; rfl, .cons r h, z⟩
theorem pr_take {α β : Type} {R : α → β → Prop} : ∀ {l : List α} {m : List β} (n : Nat), Paired R l m → Paired R (l.take n) (m.take n)
  | _, _, 0, _ => .nil
  | _, _, _ + 1, .nil => .nil
  | _, _, n + 1, .cons r t => .cons r (pr_take n t)
theorem pr_drop {α β : Type} {R : α → β → Prop} : ∀ {l : List α} {m : List β} (n : Nat), Paired R l m → Paired R (l.drop n) (m.drop n)
  | _, _, 0, h => h
  | _, _, _ + 1, .nil => .nil
  | _, _, n + 1, .cons _ t => pr_drop n t
theorem cutV_init {xs : List V} {x : V} : cutV (xs ++ [x]) none (some (-1)) = xs := by
  unfold cutV
  rw [HT.sIx_none]
  show ((xs ++ [x]).drop 0).take ((if (-1 : Int) < 0 then ((-1 : Int) + ((xs ++ [x]).length : Int)).toNat else min (-1 : Int).toNat (xs ++ [x]).length) - 0) = xs
  rw [if_pos (by decide), List.drop_zero, Nat.sub_zero, show ((-1 : Int) + ((xs ++ [x]).length : Int)).toNat = xs.length by rw [List.length_append, List.length_singleton]; omega, List.take_left]
theorem at_lastV {xs : List V} {y : V} : atI (xs ++ [y]) (-1) = some y := by
  unfold atI ixN
  rw [if_neg (by decide), if_pos (by rw [List.length_append, List.length_singleton]; omega)]
  show (xs ++ [y])[(-1 + ((xs ++ [y]).length : Int)).toNat]? = some y
  rw [show (-1 + ((xs ++ [y]).length : Int)).toNat = xs.length by rw [List.length_append, List.length_singleton]; omega]
  simp
section
variable {P : Program} {w : World} {K : PySem.W.Frag} {mg : Str → Option Value} {base : Heap} {c : Cl}
def sp_save (c : Cl) (K : PySem.W.Frag) (d : Nat) : Sp := fun vs H Q _ => ∃ (kt p q pl l : Addr) (r : Int) (D : Nat) (n kd : Int) (path : List (Int × Nat)) (its : List Itm) (pvs ws : List V) (O Od : Addr → Prop) (s s' : PgS), vs = [.ref kt, .ref pl, .int n, .int kd, .ref l] ∧ path.length < d ∧ KW c H kt p q r D O Od s ∧ H pl = some (.lst pvs) ∧ Paired (PthV K H) pvs path ∧ ¬ O pl ∧ H l = some (.lst ws) ∧ ItVs K H ws its ∧ ¬ O l ∧ Sv D path n kd its s s' ∧ path.length ≤ 1000 ∧ D ≤ 8 ∧
  ∀ H' O', PagAt c H' p q O' Od s' → Stp O O' H H' → Q .non H'
theorem ok_KeyTree_save' (T : Txt K mg c) : ∀ d, GM P w K mg base CX0 (7 + d) c.KeyTree "save" (sp_save c K d) := by
  intro d
  induction d with
  | zero =>
    obtain ⟨f, fd, F, gf, gi⟩ := T.f_KeyTree_save
    refine ⟨f, fd, ["self", "path", "number", "kind", "items"], F.ok sc_KeyTree_save ?_ (fun cdv A outer s0 H vs Q E hr h => ?_), ⟨gf, gi, F.kp⟩, (F.binds (ps := ["self", "path", "number", "kind", "items"]) fun _ _ _ _ _ _ us hl => match us, hl with | [_, _, _, _, _], _ => rfl)⟩
    · rintro vs H Q E ⟨_, _, _, _, _, _, _, _, _, _, _, _, _, _, _, _, _, rfl, _⟩
      rfl
    · obtain ⟨_, _, _, _, _, _, _, _, _, _, _, _, _, _, _, _, _, _, z, _⟩ := h
      exact absurd z (Nat.not_lt_zero _)
  | succ d ih =>
    obtain ⟨f, fd, F, gf, gi⟩ := T.f_KeyTree_save
    obtain ⟨_, mg_INNER⟩ := T.m_INNER
    have tc_KeyTree := T.cl_KeyTree; have tn_KeyTree_pager := T.n_KeyTree_pager; have tn_KeyTree_root := T.n_KeyTree_root; have tn_KeyTree_dimensions := T.n_KeyTree_dimensions
    have tc_Pager := T.cl_Pager; have tn_Pager_device := T.n_Pager_device; have tn_Pager_committed := T.n_Pager_committed; have tn_Pager_dirty := T.n_Pager_dirty
    refine ⟨f, fd, ["self", "path", "number", "kind", "items"], F.ok sc_KeyTree_save ?_ (fun cdv A outer s0 H vs Q E hr h => ?_), ⟨gf, gi, F.kp⟩, (F.binds (ps := ["self", "path", "number", "kind", "items"]) fun _ _ _ _ _ _ us hl => match us, hl with | [_, _, _, _, _], _ => rfl)⟩
    · rintro vs H Q E ⟨_, _, _, _, _, _, _, _, _, _, _, _, _, _, _, _, _, rfl, _⟩
      rfl
    · obtain ⟨kt, p, q, pl, l, r, D, n, kd, path, its, pvs, ws, O, Od, s, s', rfl, ld, W, hpl, hpv, npl, hl, hv, nl, sv, lp, hD, k⟩ := h
      refine ⟨_, (pss_cons (ps_if (pt_not (pt_val (pe_gm T.cl_KeyTree (ok_KeyTree_too_large T) (pv 0) (hr.mono (Nat.le_trans (by decide) (Nat.le_add_right 7 d))) pass0S (pa_cons (pv 3) (pa_cons (pv 4) pa_nil))))) (pss_cons (ps_expr (pe_gm T.cl_KeyTree (ok_KeyTree_store T) (pv 0) (hr.mono (Nat.le_trans (by decide) (Nat.le_add_right 7 d))) pass0S (pa_cons (pv 2) (pa_cons (pv 3) (pa_cons (pv 4) pa_nil)))))
      (pss_one ps_retN)) pss_nil)
      (pss_cons (ps_asg (pe_gm T.cl_KeyTree (ok_KeyTree_halves T) (pv 0) (hr.mono (Nat.le_trans (by decide) (Nat.le_add_right 7 d))) pass0S (pa_cons (pv 3) (pa_cons (pv 4) pa_nil))) (pg_kT rfl (pg_tup (n := 2) rfl (pgs_cons (pg_name (i := 5) sc_KeyTree_save.nd rfl (Or.inl rfl)) (pgs_cons (pg_name (i := 6) sc_KeyTree_save.nd rfl (Or.inl rfl)) pgs_nil)))))
      (pss_cons (ps_set (i := 7) sc_KeyTree_save.nd rfl (Or.inl rfl) (pe_gm0 T.cl_Pager (ok_Pager_allocate T) (pe_fldK rfl (pv 0)) (hr.mono (Nat.le_trans (by decide) (Nat.le_add_right 7 d))) pass0S))
      (pss_cons (ps_expr (pe_gm T.cl_KeyTree (ok_KeyTree_store T) (pv 0) (hr.mono (Nat.le_trans (by decide) (Nat.le_add_right 7 d))) pass0S (pa_cons (pv 7) (pa_cons (pv 3) (pa_cons (pv 6) pa_nil)))))
      (pss_cons (ps_if (pt_cmpR op_eq (pe_callB (r := rLenQ K) c_len (by rfl) T.z_len PySem.boot_len (pa_cons (pv 1) pa_nil)) pe_int (nomark _)) (pss_cons (ps_set (i := 8) sc_KeyTree_save.nd rfl (Or.inl rfl) (pe_gm0 T.cl_Pager (ok_Pager_allocate T) (pe_fldK rfl (pv 0)) (hr.mono (Nat.le_trans (by decide) (Nat.le_add_right 7 d))) pass0S))
      (pss_cons (ps_expr (pe_gm T.cl_KeyTree (ok_KeyTree_store T) (pv 0) (hr.mono (Nat.le_trans (by decide) (Nat.le_add_right 7 d))) pass0S (pa_cons (pv 8) (pa_cons (pv 3) (pa_cons (pv 5) pa_nil)))))
      (pss_cons (ps_expr (pe_gm T.cl_KeyTree (ok_KeyTree_store T) (pv 0) (hr.mono (Nat.le_trans (by decide) (Nat.le_add_right 7 d))) pass0S (pa_cons (pv 2) (pa_cons (pe_glob (v := .int 2) rfl mg_INNER ⟨_, rfl⟩) (pa_cons (pe_lst (pa_cons (pe_op (r := rCatA K) op_catA (pe_g (ok_pair_of T) (hr.mono (Nat.le_trans (by decide) (Nat.le_add_right 7 d))) pass0S (pa_cons (pe_ix (r := rIxL K) ix_list (pv 5) pe_int (fun _ _ => rfl)) pa_nil)) (pe_tup (pa_cons (pv 8) pa_nil))) (pa_cons (pe_op (r := rCatA K) op_catA (pe_g (ok_pair_of T) (hr.mono (Nat.le_trans (by decide) (Nat.le_add_right 7 d))) pass0S (pa_cons (pe_ix (r := rIxL K) ix_list (pv 6) pe_int (fun _ _ => rfl)) pa_nil)) (pe_tup (pa_cons (pv 7) pa_nil))) pa_nil))) pa_nil)))))
      (pss_one ps_retN)))) pss_nil)
      (pss_cons (ps_expr (pe_gm T.cl_KeyTree (ok_KeyTree_store T) (pv 0) (hr.mono (Nat.le_trans (by decide) (Nat.le_add_right 7 d))) pass0S (pa_cons (pv 2) (pa_cons (pv 3) (pa_cons (pv 5) pa_nil)))))
      (pss_cons (ps_asg (pe_ix (r := rIxL K) ix_list (pv 1) (pe_un un_neg pe_int) (fun _ _ => rfl)) (pg_kT rfl (pg_tup (n := 2) rfl (pgs_cons (pg_name (i := 9) sc_KeyTree_save.nd rfl (Or.inl rfl)) (pgs_cons (pg_name (i := 10) sc_KeyTree_save.nd rfl (Or.inl rfl)) pgs_nil)))))
      (pss_cons (ps_set (i := 11) sc_KeyTree_save.nd rfl (Or.inl rfl) (pe_ix (r := rIxT K) ix_tup (pe_gm T.cl_KeyTree (ok_KeyTree_load T) (pv 0) (hr.mono (Nat.le_trans (by decide) (Nat.le_add_right 7 d))) pass0S (pa_cons (pv 9) pa_nil)) pe_int (fun _ _ => rfl)))
      (pss_cons (ps_expr (pe_kBM rfl (pe_bm PySem.F.plainAttrs_list PySem.F.slot_list_insert PySem.F.type_list_insert mt_insert (pv 11) (pa_cons (pe_op op_add (pv 10) pe_int) (pa_cons (pe_op (r := rCatA K) op_catA (pe_g (ok_pair_of T) (hr.mono (Nat.le_trans (by decide) (Nat.le_add_right 7 d))) pass0S (pa_cons (pe_ix (r := rIxL K) ix_list (pv 6) pe_int (fun _ _ => rfl)) pa_nil)) (pe_tup (pa_cons (pv 7) pa_nil))) pa_nil)))))
      (pss_one (ps_expr (pe_gm T.cl_KeyTree ih (pv 0) hr pass0S (pa_cons (pe_slice (r := rSlL K) sl_list (pv 1) po_none (po_some (pe_un un_neg pe_int))) (pa_cons (pv 9) (pa_cons (pe_glob (v := .int 2) rfl mg_INNER ⟨_, rfl⟩) (pa_cons (pv 11) pa_nil)))))))))))))))), ?_⟩
      have si : SvI kd its s := by cases sv <;> assumption
      obtain ⟨dx, ho⟩ := W.ka.o
      have lz := si.lz
      walk_at "cx"
      walk_at "rd"
      refine ⟨kt, p, r, D, kd, l, ws, its, rfl, W.ka, hl, hv, si.k, si.kk, by omega, fun H1 k1 => ?_⟩
      have W1 := W.pure k1
      have ho1 := k1.get ho id
      have hl1 := k1.get hl id
      have hv1 : ItVs K H1 ws its := hv.mono fun _ _ z => z.kp k1
      have hpl1 := k1.get hpl id
      have hpv1 : Paired (PthV K H1) pvs path := hpv.mono fun _ _ z => z.kp k1
      walk_at "rd"
      by_cases tl : tooL kd its
      · have tl' := tl
        unfold tooL at tl'
        rw [decide_eq_true tl']
        have pos : 0 < its.length ∧ ∃ f g, (its.take (hk its))[0]? = some f ∧ (its.drop (hk its))[0]? = some g ∧ (encB kd (its.take (hk its))).length ≤ 256 ∧ (encB kd (its.drop (hk its))).length ≤ 256 := by
          have z : ∀ {f : Itm} {n : Nat}, (its.drop n)[0]? = some f → 0 < its.length := fun {f n} e => by
            have := (List.getElem?_eq_some_iff.mp e).1
            rw [List.length_drop] at this; omega
          cases sv with
          | fit _ nt _ => exact absurd tl nt
          | root _ _ e1 e2 l1 l2 => exact ⟨z e2, _, _, e1, e2, l1, l2⟩
          | up _ _ e1 e2 l1 l2 => exact ⟨z e2, _, _, e1, e2, l1, l2⟩
        obtain ⟨pos, f1, g1, ef, eg, lf, lg⟩ := pos
        walk_at "rd"
        refine ⟨kt, p, r, D, kd, l, ws, its, rfl, W1.ka, hl1, hv1, si.k, pos, by omega, fun hle H2 t l1 l2 k2 e2 fr1 fr2 n12 el1 el2 => ?_⟩
        have W2 := W1.pure k2
        have ho2 := k2.get ho1 id
        obtain ⟨⟨dy, a1, a2, y1, y2, DP⟩, _⟩ := id W2.pg
        have hop := DP.o
        have nl1 := W1.pg.fresh fr1
        have nl2 := W1.pg.fresh fr2
        have hv2 : ItVs K H2 ws its := hv1.mono fun _ _ z => z.kp k2
        have hpl2 := k2.get hpl1 id
        have hpv2 : Paired (PthV K H2) pvs path := hpv1.mono fun _ _ z => z.kp k2
        walk_at "rd"
        refine ⟨p, q, O, Od, s, rfl, W2.pg, by have := si.ds; omega, si.z0, fun H3 O3 P3 t3 => ?_⟩
        have W3 := W2.pager P3 t3
        have ho3 := t3.kp.get ho2 W.nk
        have el13 := t3.kp.get el1 nl1
        have nl13 := t3.kp0 el1 nl1
        have el23 := t3.kp.get el2 nl2
        have nl23 := t3.kp0 el2 nl2
        have hpl3 := t3.kp.get hpl2 npl
        have npl3 := t3.kp0 hpl2 npl
        have hv3 : ItVs K H3 ws its := hv2.mono fun _ _ z => z.kp t3.kp
        have hpv3 : Paired (PthV K H3) pvs path := hpv2.mono fun _ _ z => z.kp t3.kp
        have pd : ∀ x : PgS, (palloc x).1.dir.length ≤ x.dir.length + 2 := fun x => by
          have l : ∀ (y : PgS) n ds, (pwr n ds y).dir.length ≤ y.dir.length + 1 := fun y n ds => aput_len _ _ _
          unfold palloc
          split
          · refine Nat.le_trans (l _ _ _) ?_
            have := l x 0 (spl (gpg x 0) 6 (fld x 6 + 1))
            show (pwr 0 (spl (gpg x 0) 6 (fld x 6 + 1)) x).dir.length + 1 ≤ _
            omega
          · refine Nat.le_trans (l _ _ _) ?_
            have := l x 0 (spl (gpg x 0) 7 (rn ((gpg x (fld x 7)).take 4)))
            show (pwr 0 (spl (gpg x 0) 7 (rn ((gpg x (fld x 7)).take 4))) x).dir.length + 1 ≤ _
            omega
        have d3 := pd s
        have ds := si.ds
        walk_at "rd"
        refine ⟨kt, p, q, r, D, kd, (palloc s).2, l2, ws.drop (hk its), its.drop (hk its), O3, Od, (palloc s).1, rfl, W3.ka, W3.pg, el23, pr_drop _ hv3, fun it hi => si.k it (List.mem_of_mem_drop hi), by rw [List.length_drop]; omega, lg, by omega, fun H4 O4 P4 t4 => ?_⟩
        have W4 := W3.pager P4 t4
        have ho4 := t4.kp.get ho3 W3.nk
        have el14 := t4.kp.get el13 nl13
        have nl14 := t4.kp0 el13 nl13
        have el24 := t4.kp.get el23 nl23
        have nl24 := t4.kp0 el23 nl23
        have hpl4 := t4.kp.get hpl3 npl3
        have npl4 := t4.kp0 hpl3 npl3
        have hv4 : ItVs K H4 ws its := hv3.mono fun _ _ z => z.kp t4.kp
        have hpv4 : Paired (PthV K H4) pvs path := hpv3.mono fun _ _ z => z.kp t4.kp
        have lpv := hpv.length
        have d4 : (pwr (palloc s).2 (pad (encB kd (its.drop (hk its)))) (palloc s).1).dir.length ≤ (palloc s).1.dir.length + 1 := aput_len _ _ _
        obtain ⟨⟨dy, a1, a2, y1, y2, DP4⟩, _⟩ := id W4.pg
        have hop4 := DP4.o
        have t04 : Stp O O4 H H4 := ((Stp.pure (k1.trans k2 fun _ z => z.elim)).trans t3).trans t4
        walk_at "rd"
        cases sv with
        | fit _ nt _ => exact absurd tl nt
        | root _ _ e1 e2 l1' l2' ea es1 ez eb es2 =>
          subst ea es1 eb es2
          refine ite_dec (fun e => ?_) fun e => absurd (by rw [lpv]; rfl) e
          walk_at "rd"
          refine ⟨p, q, O4, Od, _, rfl, W4.pg, by omega, ez, fun H5 O5 P5 t5 => ?_⟩
          have W5 := W4.pager P5 t5
          have ho5 := t5.kp.get ho4 W4.nk
          have el15 := t5.kp.get el14 nl14
          have nl15 := t5.kp0 el14 nl14
          have el25 := t5.kp.get el24 nl24
          have nl25 := t5.kp0 el24 nl24
          have hv5 : ItVs K H5 ws its := hv4.mono fun _ _ z => z.kp t5.kp
          have d5 := pd (pwr (palloc s).2 (pad (encB kd (its.drop (hk its)))) (palloc s).1)
          walk_at "rd"
          refine ⟨kt, p, q, r, D, kd, _, l1, ws.take (hk its), its.take (hk its), O5, Od, _, rfl, W5.ka, W5.pg, el15, pr_take _ hv5, fun it hi => si.k it (List.mem_of_mem_take hi), by rw [List.length_take]; omega, lf, by omega, fun H6 O6 P6 t6 => ?_⟩
          have W6 := W5.pager P6 t6
          have ho6 := t6.kp.get ho5 W5.nk
          have el16 := t6.kp.get el15 nl15
          have el26 := t6.kp.get el25 nl25
          have hv6 : ItVs K H6 ws its := hv5.mono fun _ _ z => z.kp t6.kp
          have t06 := (t04.trans t5).trans t6
          obtain ⟨v1, ev1, hi1⟩ := pgetr (pr_take (hk its) hv6) e1
          obtain ⟨v2, ev2, hi2⟩ := pgetr (pr_drop (hk its) hv6) e2
          walk_at "rd"
          refine x_ixL (v := v1) (SqL.of el16) (atI_at 0 rfl ev1) ?_
          walk_at "rd"
          refine ⟨v1, _, rfl, hi1, fun H7 p7 k7 e7 => ?_⟩
          walk_at "rd"
          refine x_newT fun t8 H8 ht8 k8 e8 => ?_
          walk_at "rd"
          refine x_catT (k8.sqT e7) (SqT.of e8) (Nat.le_of_ble_eq_true rfl) fun t9 H9 k9 e9 => ?_
          have k69 : Kp F0 H6 H9 := (k7.trans k8 fun _ z => z.elim).trans k9 fun _ z => z.elim
          walk_at "rd"
          refine x_ixL (v := v2) (SqL.of (k69.get el26 id)) (atI_at 0 rfl ev2) ?_
          walk_at "rd"
          refine ⟨v2, _, rfl, hi2.kp k69, fun H10 p10 k10 e10 => ?_⟩
          walk_at "rd"
          refine x_newT fun t11 H11 ht11 k11 e11 => ?_
          walk_at "rd"
          refine x_catT (k11.sqT e10) (SqT.of e11) (Nat.le_of_ble_eq_true rfl) fun t12 H12 k12 e12 => ?_
          have k912 : Kp F0 H9 H12 := (k10.trans k11 fun _ z => z.elim).trans k12 fun _ z => z.elim
          walk_at "rd"
          refine x_newL fun l13 H13 hl13 k13 e13 => ?_
          have k613 : Kp F0 H6 H13 := (k69.trans k912 fun _ z => z.elim).trans k13 fun _ z => z.elim
          have W13 := W6.pure k613
          walk_at "rd"
          have d6 : ∀ (y : PgS) n ds, (pwr n ds y).dir.length ≤ y.dir.length + 1 := fun y n ds => aput_len _ _ _
          have d6' := d6 (palloc (pwr (palloc s).2 (pad (encB kd (its.drop (hk its)))) (palloc s).1)).1 (palloc (pwr (palloc s).2 (pad (encB kd (its.drop (hk its)))) (palloc s).1)).2 (pad (encB kd (its.take (hk its))))
          have q1 : f1 = _ := Option.some.inj (ef.symm.trans e1)
          have q2 : g1 = _ := Option.some.inj (eg.symm.trans e2)
          subst q1 q2
          refine ⟨kt, p, q, r, D, 2, n, l13, _, [chI f1.a f1.b (palloc (pwr (palloc s).2 (pad (encB kd (its.drop (hk its)))) (palloc s).1)).2, chI g1.a g1.b (palloc s).2], O6, Od, _, rfl, W13.ka, W13.pg, e13, .cons (chI_V (k13.sqT (k912.sqT e9))) (.cons (chI_V (k13.sqT e12)) .nil), ?_, (by show (2 : Nat) ≤ 1000; decide), (by show (26 : Nat) ≤ 256; decide), by omega, fun H14 O14 P14 t14 => ?_⟩
          · intro it hi
            rcases List.mem_cons.mp hi with rfl | hi
            · exact chI_K
            · rw [List.mem_singleton.mp hi]; exact chI_K
          · walk_at "rd"
            exact k H14 O14 P14 ((t06.trans (Stp.pure k613)).trans t14)
        | up _ _ e1 e2 l1' l2' ea es1 es2 dc pcl sv' =>
          subst ea es1 es2
          rename_i pa pc par cs _ _ _ _
          have q1 : f1 = _ := Option.some.inj (ef.symm.trans e1)
          have q2 : g1 = _ := Option.some.inj (eg.symm.trans e2)
          subst q1 q2
          rw [List.length_append, List.length_singleton] at lpv ld lp
          refine ite_dec (fun e => absurd e (by omega)) fun e => ?_
          walk_at "rd"
          refine ⟨kt, p, q, r, D, kd, n, l1, ws.take (hk its), its.take (hk its), O4, Od, _, rfl, W4.ka, W4.pg, el14, pr_take _ hv4, fun it hi => si.k it (List.mem_of_mem_take hi), by rw [List.length_take]; omega, lf, by omega, fun H5 O5 P5 t5 => ?_⟩
          have W5 := W4.pager P5 t5
          have ho5 := t5.kp.get ho4 W4.nk
          have el25 := t5.kp.get el24 nl24
          have nl25 := t5.kp0 el24 nl24
          have hpl5 := t5.kp.get hpl4 npl4
          have npl5 := t5.kp0 hpl4 npl4
          have hv5 : ItVs K H5 ws its := hv4.mono fun _ _ z => z.kp t5.kp
          have hpv5 := hpv4.mono fun _ _ z => z.kp t5.kp
          have t05 := t04.trans t5
          obtain ⟨pvs', xv, epv, hpv', t9, ext, ht9⟩ := pr_snoc hpv5
          rw [ext] at epv
          rw [epv] at hpl5
          obtain ⟨v2, ev2, hi2⟩ := pgetr (pr_drop (hk its) hv5) e2
          walk_at "rd"
          refine x_ixL (v := .ref t9) (SqL.of hpl5) at_lastV ?_
          walk_at "rd"
          refine ⟨kt, p, q, r, D, _, 2, _, O5, Od, _, rfl, W5.ka, W5.pg, dc, hD, fun H6 t6 l6 ws6 k6 e6 fr6 el6 hv6 => ?_⟩
          have el26 := k6.get el25 id
          have W6 := W5.pure k6
          have lcs := dc.lz
          have lw6 := hv6.length
          walk_at "rd"
          refine x_ixL (v := v2) (SqL.of el26) (atI_at 0 rfl ev2) ?_
          walk_at "rd"
          refine ⟨v2, _, rfl, hi2.kp k6, fun H7 p7 k7 e7 => ?_⟩
          walk_at "rd"
          refine x_newT fun t8 H8 ht8 k8 e8 => ?_
          walk_at "rd"
          refine x_catT (k8.sqT e7) (SqT.of e8) (Nat.le_of_ble_eq_true rfl) fun t9' H9 k9 e9 => ?_
          have k69 : Kp F0 H6 H9 := (k7.trans k8 fun _ z => z.elim).trans k9 fun _ z => z.elim
          have W9 := W6.pure k69
          walk_at "rd"
          have el69 := k69.get el6 id
          refine ⟨l6, ws6, ((pc : Nat) : Int) + 1, .ref t9', rfl, rfl, el69, Nat.lt_of_lt_of_le (show ws6.length < 16777216 by omega) (by decide), by omega, by omega, ?_⟩
          rw [show (((pc : Nat) : Int) + 1).toNat = pc + 1 by omega]
          have e10 : (upd H9 l6 (.lst (ws6.take (pc + 1) ++ [.ref t9'] ++ ws6.drop (pc + 1))) : Hp) l6 = some (.lst (ws6.take (pc + 1) ++ [.ref t9'] ++ ws6.drop (pc + 1))) := upd_same
          have k10 : Kp (F1 l6) H9 (upd H9 l6 (.lst (ws6.take (pc + 1) ++ [.ref t9'] ++ ws6.drop (pc + 1)))) := Kp.put el69 id
          generalize upd H9 l6 (.lst (ws6.take (pc + 1) ++ [.ref t9'] ++ ws6.drop (pc + 1))) = H10 at e10 k10 ⊢
          have nl6 := W5.pg.fresh fr6
          have nkl : kt ≠ l6 := ne_of_none ho5 fr6
          have W10 := W9.off k10 (fun b z => by rw [z]; exact nl6) nkl
          have hpl9 := k69.get (k6.get hpl5 id) id
          have npl6 : pl ≠ l6 := ne_of_none hpl5 fr6
          have hpl10 := k10.get hpl9 npl6
          have k510 : Kp F0 H5 H10 := fun x o hx _ => k10.get (k69.get (k6.get hx id) id) (ne_of_none hx fr6)
          walk_at "rd"
          refine x_slL (SqL.of hpl10) fun l11 H11 hl11 k11 e11 => ?_
          rw [cutV_init] at e11
          have W11 := W10.pure k11
          have k511 : Kp F0 H5 H11 := k510.trans k11 fun _ z => z.elim
          walk_at "rd"
          refine ⟨kt, p, q, l11, l6, r, D, _, 2, _, _, _, _, O5, Od, _, s', rfl, by omega, W11, e11, hpv'.mono fun _ _ z => z.kp k511, W10.pg.fresh hl11, k11.get e10 id, ?_, nl6, sv', by omega, hD, fun H12 O12 P12 t12 => ?_⟩
          · refine pr_app (pr_app (pr_take _ ?_) (.cons (chI_V ?_) .nil)) (pr_drop _ ?_)
            · exact hv6.mono fun _ _ z => ((z.kp k69).kp k10).kp k11
            · exact k11.sqT (k10.sqT e9)
            · exact hv6.mono fun _ _ z => ((z.kp k69).kp k10).kp k11
          · walk_at "rd"
            exact k H12 O12 P12 ((t05.trans (Stp.pure k511)).trans t12)
      · have tl' := tl
        unfold tooL at tl'
        rw [decide_eq_false tl']
        cases sv with
        | fit _ _ le =>
          walk_at "rd"
          refine ⟨kt, p, q, r, D, kd, n, l, ws, its, O, Od, s, rfl, W1.ka, W1.pg, hl1, hv1, si.k, by omega, le, by have := si.ds; omega, fun H2 O2 P2 t2 => ?_⟩
          walk_at "rd"
          exact k H2 O2 P2 ((Stp.pure k1).trans t2)
        | root _ t => exact absurd t tl
        | up _ t => exact absurd t tl
end
def insI (it : Itm) (es : List Itm) : List Itm := es.take (es.filter fun x => pLt x.a x.b it.a it.b).length ++ [it] ++ es.drop (es.filter fun x => pLt x.a x.b it.a it.b).length
def repI (kk bb e : Int) (x : Itm) : Itm := if x.a = kk ∧ x.b = bb then { x with c := e } else x
def delI (kk bb : Int) (es : List Itm) : List Itm := es.filter fun x => !decide ([x.a, x.b] = [kk, bb])
section
variable {P : Program} {w : World} {K : PySem.W.Frag} {mg : Str → Option Value} {base : Heap} {c : Cl}
theorem ok_KeyTree_save (T : Txt K mg c) : GM P w K mg base CX0 177 c.KeyTree "save" (sp_save c K 170) := ok_KeyTree_save' T 170
def sp_KeyTree_insert (c : Cl) (K : PySem.W.Frag) : Sp := fun vs H Q _ => ∃ (kt p q : Addr) (r : Int) (D : Nat) (v : V) (it : Itm) (m : Int) (path : List (Int × Nat)) (es : List Itm) (O Od : Addr → Prop) (s s' : PgS), vs = [.ref kt, v] ∧ KW c H kt p q r D O Od s ∧ ItV K H v it ∧ Way D (gpg s) it.a it.b r path m es ∧ path.length < 170 ∧ es.length ≤ 800 ∧ D ≤ 8 ∧ Sv D path m 1 (insI it es) s s' ∧
  ∀ H' O', PagAt c H' p q O' Od s' → Stp O O' H H' → Q .non H'
theorem ok_KeyTree_insert (T : Txt K mg c) : GM P w K mg base CX0 178 c.KeyTree "insert" (sp_KeyTree_insert c K) := by
  obtain ⟨f, fd, F, gf, gi⟩ := T.f_KeyTree_insert
  obtain ⟨_, mg_LEAF⟩ := T.m_LEAF
  have tc_KeyTree := T.cl_KeyTree; have tn_KeyTree_pager := T.n_KeyTree_pager; have tn_KeyTree_root := T.n_KeyTree_root; have tn_KeyTree_dimensions := T.n_KeyTree_dimensions
  refine ⟨f, fd, ["self", "entry"], F.ok sc_KeyTree_insert ?_ (fun cdv A outer s0 H vs Q E hr h => ?_), ⟨gf, gi, F.kp⟩, (F.binds (ps := ["self", "entry"]) fun _ _ _ _ _ _ us hl => match us, hl with | [_, _], _ => rfl)⟩
  · rintro vs H Q E ⟨_, _, _, _, _, _, _, _, _, _, _, _, _, _, rfl, _⟩
    rfl
  · obtain ⟨kt, p, q, r, D, v, it, m, path, es, O, Od, s, s', rfl, W, hv, way, lp, le, hD, sv, k⟩ := h
    obtain ⟨dx, ho⟩ := W.ka.o
    refine ⟨_, (pss_cons (ps_asg (pe_gm T.cl_KeyTree (ok_KeyTree_path_to T) (pv 0) (hr.mono (by decide)) pass0S (pa_cons (pe_g (ok_pair_of T) (hr.mono (by decide)) pass0S (pa_cons (pv 1) pa_nil)) pa_nil)) (pg_kT rfl (pg_tup (n := 3) rfl (pgs_cons (pg_name (i := 2) sc_KeyTree_insert.nd rfl (Or.inl rfl)) (pgs_cons (pg_name (i := 3) sc_KeyTree_insert.nd rfl (Or.inl rfl)) (pgs_cons (pg_name (i := 4) sc_KeyTree_insert.nd rfl (Or.inl rfl)) pgs_nil))))))
      (pss_cons (ps_set (i := 5) sc_KeyTree_insert.nd rfl (Or.inl rfl) (pe_callB (r := rLenQ K) c_len (by rfl) T.z_len PySem.boot_len (pa_cons (pe_lc (own := [("item", 6)]) (g := (gName 6)) rfl sc_KeyTree_insert.nd (pi_listK rfl (pv 4)) (blkOk_by (N := ["self", "entry", "path", "number", "items", "place", "item"]) (sc := defScope s_KeyTree_insert) (by decide +kernel)) (fun _ _ _ _ _ => (pg_name (i := 6) sc_KeyTree_insert.nd rfl (Or.inl rfl))) (fun _ _ _ _ _ => (pts_one (pt_cmpR (r := rLtT K) (op_ltT hr.units0) (pe_g (ok_pair_of T) (hr.mono (by decide)) pass0S (pa_cons (pv 6) pa_nil)) (pe_g (ok_pair_of T) (hr.mono (by decide)) pass0S (pa_cons (pv 1) pa_nil)) (nomark _)))) (fun _ _ _ _ _ => (pv 6))) pa_nil)))
      (pss_cons (ps_expr (pe_kBM rfl (pe_bm PySem.F.plainAttrs_list PySem.F.slot_list_insert PySem.F.type_list_insert mt_insert (pv 4) (pa_cons (pv 5) (pa_cons (pv 1) pa_nil)))))
      (pss_one (ps_expr (pe_gm T.cl_KeyTree (ok_KeyTree_save T) (pv 0) (hr.mono (by decide)) pass0S (pa_cons (pv 2) (pa_cons (pv 3) (pa_cons (pe_glob (v := .int 1) rfl mg_LEAF ⟨_, rfl⟩) (pa_cons (pv 4) pa_nil)))))))))), ?_⟩
    walk_at "cx"
    walk_at "rd"
    refine ⟨v, it, rfl, hv, fun H1 t1 k1 e1 => ?_⟩
    have ho1 := k1.get ho id
    have W1 := W.pure k1
    walk_at "rd"
    refine ⟨kt, p, q, t1, r, D, it.a, it.b, m, path, es, O, Od, s, rfl, W1.ka, W1.pg, e1, way, by omega, hD, fun H2 t2 pl l pvs ws k2 e2 fpl fl npl hpl hpv hl hws => ?_⟩
    have W2 := W1.pure k2
    have hv2 := (hv.kp k1).kp k2
    have lws := hws.length
    walk_at "rd"
    refine wlc (Wk.list (xs := ws)) F0 (fun _ => True) (fun i acc => acc.length = ((es.take i).filter fun x => pLt x.a x.b it.a it.b).length) (fun b z => z.elim) (by omega) (fun H' _ s => SqL.of (s.get hl id)) rfl trivial (fun _ _ _ _ _ _ => trivial) (fun i x acc H' R R0 ex pv _ kp hR hR0 => ?_) (fun z H3 acc hz hz3 pv _ k3 => ?_)
    · obtain ⟨y, ey, hy⟩ := pgt hws ex
      have tk : es.take (i + 1) = es.take i ++ [y] := by rw [List.take_succ, ey]; rfl
      walk_at "rd"
      refine ⟨rfl, ?_⟩
      walk_at "rd"
      refine ⟨x, y, rfl, hy.kp kp, fun H4 t4 k4 e4 => ?_⟩
      walk_at "rd"
      refine ⟨v, it, rfl, (hv2.kp kp).kp k4, fun H5 t5 k5 e5 => ?_⟩
      walk_at "rd"
      refine ⟨t4, t5, [y.a, y.b], [it.a, it.b], rfl, rfl, k5.sqT e4, e5, ?_⟩
      rw [lex_pLt]
      have k45 : Kp F0 H' H5 := k4.trans k5 fun _ z => z.elim
      cases hp : pLt y.a y.b it.a it.b with
      | true =>
        walk_at "rd"
        refine hR _ H5 k45 trivial ?_
        rw [tk, List.filter_append, List.length_append, List.length_append, pv, List.filter_cons, if_pos hp]; rfl
      | false =>
        walk_at "rd"
        refine hR0 H5 k45 trivial ?_
        rw [tk, List.filter_append, List.length_append, pv, List.filter_cons, if_neg (by rw [hp]; exact Bool.false_ne_true)]; rfl
    · rw [lws, List.take_length] at pv
      have hl3 := k3.get hl id
      have lf := List.length_filter_le (fun x : Itm => pLt x.a x.b it.a it.b) es
      have W3 := W2.pure k3
      have ho3 := k3.get (k2.get ho1 id) id
      walk_at "rd"
      refine ⟨l, ws, (acc.length : Int), v, rfl, rfl, hl3, Nat.lt_of_lt_of_le (show ws.length < 16777216 by omega) (by decide), by omega, by omega, ?_⟩
      rw [Int.toNat_natCast, pv]
      have k4 : Kp (F1 l) H3 (upd H3 l (.lst (ws.take (es.filter fun x => pLt x.a x.b it.a it.b).length ++ [v] ++ ws.drop (es.filter fun x => pLt x.a x.b it.a it.b).length))) := Kp.put hl3 id
      have e4 : (upd H3 l (.lst (ws.take (es.filter fun x => pLt x.a x.b it.a it.b).length ++ [v] ++ ws.drop (es.filter fun x => pLt x.a x.b it.a it.b).length)) : Hp) l = some (.lst (ws.take (es.filter fun x => pLt x.a x.b it.a it.b).length ++ [v] ++ ws.drop (es.filter fun x => pLt x.a x.b it.a it.b).length)) := upd_same
      generalize upd H3 l (.lst (ws.take (es.filter fun x => pLt x.a x.b it.a it.b).length ++ [v] ++ ws.drop (es.filter fun x => pLt x.a x.b it.a it.b).length)) = H4 at k4 e4
      have nl := W1.pg.fresh fl
      have npO := W1.pg.fresh fpl
      have W4 := W3.off k4 (fun b z => by rw [z]; exact nl) (ne_of_none ho1 fl)
      have ho4 := k4.get ho3 (ne_of_none ho1 fl)
      have k14 : Kp F0 H1 H4 := fun x o hx _ => k4.get (k3.get (k2.get hx id) id) (ne_of_none hx fl)
      have kk : ∀ {x : V} {i : Itm}, ItV K H2 x i → ItV K H4 x i := fun z => (z.kp k3).kp k4
      walk_at "rd"
      refine ⟨kt, p, q, pl, l, r, D, m, 1, path, insI it es, pvs, _, O, Od, s, s', rfl, lp, W4, k4.get (k3.get hpl id) npl, hpv.mono fun _ _ z => (z.kp k3).kp k4, npO, e4, ?_, nl, sv, by omega, hD, fun H5 O5 P5 t5 => ?_⟩
      · unfold insI
        exact pr_app (pr_app (pr_take _ (hws.mono fun _ _ z => kk z)) (.cons (kk hv2) .nil)) (pr_drop _ (hws.mono fun _ _ z => kk z))
      · walk_at "rd"
        exact k H5 O5 P5 ((Stp.pure (k1.trans k14 fun _ z => z.elim)).trans t5)
end
/-- an inner root with one child takes over the child's content -/
inductive Lw (D : Nat) (r : Int) : Nat → Int → List Itm → PgS → PgS → Prop
  | done {kd : Int} {its : List Itm} {s : PgS} : ¬ (kd = 2 ∧ its.length = 1) → Lw D r 0 kd its s s
  | step {m : Nat} {kd : Int} {ch : Itm} {its : List Itm} {s s' : PgS} : Dec D (gpg s ch.c) kd its → s.dir.length ≤ 900000 → (gpg (pwr r (pad (encB kd its)) s) 0).length = 256 → Lw D r m kd its (prel ch.c (pwr r (pad (encB kd its)) s)) s' → Lw D r (m + 1) 2 [ch] s s'
/-- pages without items go, from the leaf upwards -/
inductive Dl (D : Nat) : List (Int × Nat) → Int → Int → List Itm → PgS → PgS → Prop
  | stop {path : List (Int × Nat)} {n kd : Int} {its : List Itm} {s : PgS} : (its = [] → path = []) → SvI kd its s → (encB (if its = [] then 1 else kd) its).length ≤ 256 → Dl D path n kd its s (pwr n (pad (encB (if its = [] then 1 else kd) its)) s)
  | climb {path : List (Int × Nat)} {pl : Nat} {n kd par : Int} {cs : List Itm} {s s' : PgS} : SvI kd [] s → Dec D (gpg (prel n s) par) 2 cs → pl < cs.length → Dl D path par 2 (cs.eraseIdx pl) (prel n s) s' → Dl D (path ++ [(par, pl)]) n kd [] s s'
section
variable {P : Program} {w : World} {K : PySem.W.Frag} {mg : Str → Option Value} {base : Heap} {c : Cl}
def sp_KeyTree_lower (c : Cl) : Sp := fun vs H Q _ => ∃ (kt p q : Addr) (r : Int) (D m : Nat) (kd : Int) (its : List Itm) (O Od : Addr → Prop) (s s' : PgS), vs = [.ref kt] ∧ KW c H kt p q r D O Od s ∧ Dec D (gpg s r) kd its ∧ Lw D r m kd its s s' ∧ D ≤ 8 ∧ ∀ H' O', PagAt c H' p q O' Od s' → Stp O O' H H' → Q .non H'
theorem ok_KeyTree_lower (T : Txt K mg c) : GM P w K mg base CX0 7 c.KeyTree "lower" (sp_KeyTree_lower c) := by
  obtain ⟨f, fd, F, gf, gi⟩ := T.f_KeyTree_lower
  obtain ⟨_, mg_INNER⟩ := T.m_INNER
  have tc_KeyTree := T.cl_KeyTree; have tn_KeyTree_pager := T.n_KeyTree_pager; have tn_KeyTree_root := T.n_KeyTree_root; have tn_KeyTree_dimensions := T.n_KeyTree_dimensions
  have tc_Pager := T.cl_Pager; have tn_Pager_device := T.n_Pager_device; have tn_Pager_committed := T.n_Pager_committed; have tn_Pager_dirty := T.n_Pager_dirty
  refine ⟨f, fd, ["self"], F.ok sc_KeyTree_lower ?_ (fun cdv A outer s0 H vs Q E hr h => ?_), ⟨gf, gi, F.kp⟩, (F.binds (ps := ["self"]) fun _ _ _ _ _ _ us hl => match us, hl with | [_], _ => rfl)⟩
  · rintro vs H Q E ⟨_, _, _, _, _, _, _, _, _, _, _, _, rfl, _⟩
    rfl
  · obtain ⟨kt, p, q, r, D, m, kd, its, O, Od, s, s', rfl, W, dec, lw, hD, k⟩ := h
    obtain ⟨dx, ho⟩ := W.ka.o
    refine ⟨_, (pss_cons (ps_asg (pe_gm T.cl_KeyTree (ok_KeyTree_load T) (pv 0) (hr.mono (by decide)) pass0S (pa_cons (pe_fldK rfl (pv 0)) pa_nil)) (pg_kT rfl (pg_tup (n := 2) rfl (pgs_cons (pg_name (i := 1) sc_KeyTree_lower.nd rfl (Or.inl rfl)) (pgs_cons (pg_name (i := 2) sc_KeyTree_lower.nd rfl (Or.inl rfl)) pgs_nil)))))
      (pss_one (ps_while PassesOwn.never (PW.pt (pw_and (pt_cmpR op_eq (pv 1) (pe_glob (v := .int 2) rfl mg_INNER ⟨_, rfl⟩) (nomark _)) (pw_and1 (pt_cmpR op_eq (pe_callB (r := rLenQ K) c_len (by rfl) T.z_len PySem.boot_len (pa_cons (pv 2) pa_nil)) pe_int (nomark _))))) (pss_cons (ps_set (i := 3) sc_KeyTree_lower.nd rfl (Or.inl rfl) (pe_ix (r := rIxT K) ix_tup (pe_ix (r := rIxL K) ix_list (pv 2) pe_int (fun _ _ => rfl)) pe_int (fun _ _ => rfl)))
      (pss_cons (ps_asg (pe_gm T.cl_KeyTree (ok_KeyTree_load T) (pv 0) (hr.mono (by decide)) pass0S (pa_cons (pv 3) pa_nil)) (pg_kT rfl (pg_tup (n := 2) rfl (pgs_cons (pg_name (i := 1) sc_KeyTree_lower.nd rfl (Or.inl rfl)) (pgs_cons (pg_name (i := 2) sc_KeyTree_lower.nd rfl (Or.inl rfl)) pgs_nil)))))
      (pss_cons (ps_expr (pe_gm T.cl_KeyTree (ok_KeyTree_store T) (pv 0) (hr.mono (by decide)) pass0S (pa_cons (pe_fldK rfl (pv 0)) (pa_cons (pv 1) (pa_cons (pv 2) pa_nil)))))
      (pss_one (ps_expr (pe_gm T.cl_Pager (ok_Pager_release T) (pe_fldK rfl (pv 0)) (hr.mono (by decide)) pass0S (pa_cons (pv 3) pa_nil)))))))))), ?_⟩
    walk_at "cx"
    walk_at "rd"
    refine ⟨kt, p, q, r, D, r, kd, its, O, Od, s, rfl, W.ka, W.pg, dec, hD, fun H1 t1 l1 ws1 k1 e1 f1 el1 hv1 => ?_⟩
    walk_at "rd"
    refine x_wh (fun m σ H' => ∃ kd its l ws O' s1 u, σ = [some (.ref kt), some (.int kd), some (.ref l), u] ∧ KW c H' kt p q r D O' Od s1 ∧ Stp O O' H H' ∧ H' l = some (.lst ws) ∧ ItVs K H' ws its ∧ ¬ O' l ∧ (kd = 1 ∨ kd = 2) ∧ its.length ≤ 21 ∧ (∀ it ∈ its, KdI kd it) ∧ Lw D r m kd its s1 s') ?_ ?_
    · exact ⟨m, kd, its, l1, ws1, O, s, none, rfl, W.pure k1, Stp.pure k1, el1, hv1, W.pg.fresh f1, dec.kk, dec.lz, fun it hi => (dec.ok it hi).kd (by omega), lw⟩
    · rintro m σ H2 ⟨kd, its, l, ws, O2, s1, u, rfl, W2, t2, el, hv, nl, kk, lz, hki, lw⟩
      have lws := hv.length
      obtain ⟨dx2, ho2⟩ := W2.ka.o
      walk_at "rd"
      cases lw with
      | done hn =>
        rcases kk with rfl | rfl
        · rw [decide_eq_false (by decide)]
          walk_at "rd"
          exact k H2 O2 W2.pg t2
        · rw [decide_eq_true rfl]
          walk_at "rd"
          rw [decide_eq_false (by intro z; exact hn ⟨rfl, by omega⟩)]
          walk_at "rd"
          exact k H2 O2 W2.pg t2
      | step dc ds z0 lw' =>
        rename_i m' kd' ch its'
        rw [decide_eq_true rfl]
        walk_at "rd"
        rw [decide_eq_true (by rw [lws]; rfl)]
        walk_at "rd"
        refine ⟨_, fun σ' H' z => ⟨m', Nat.lt_succ_self _, z⟩, ?_⟩
        cases hv with
        | cons hc hn =>
          cases hn
          rename_i v
          obtain ⟨tc, rr, rfl, htc, _⟩ := hc.three
          walk_at "rd"
          refine x_ixT (v := .int ch.c) htc (atI_at 2 rfl rfl) ?_
          walk_at "rd"
          refine ⟨kt, p, q, r, D, ch.c, kd', its', O2, Od, s1, rfl, W2.ka, W2.pg, dc, hD, fun H3 t3 l3 ws3 k3 e3 f3 el3 hv3 => ?_⟩
          have W3 := W2.pure k3
          have ho3 := k3.get ho2 id
          have nl3 := W2.pg.fresh f3
          have oki := dc.ok
          walk_at "rd"
          refine ⟨kt, p, q, r, D, kd', r, l3, ws3, its', O2, Od, s1, rfl, W3.ka, W3.pg, el3, hv3, fun it hi => (oki it hi).kd (by omega), by have := dc.lz; omega, dc.fit dc.kk, by omega, fun H4 O4 P4 t4 => ?_⟩
          have W4 := W3.pager P4 t4
          have ho4 := t4.kp.get ho3 W3.nk
          have el4 := t4.kp.get el3 nl3
          have nl4 := t4.kp0 el3 nl3
          obtain ⟨⟨dy, a1, a2, y1, y2, DP⟩, _⟩ := id W4.pg
          have hop := DP.o
          have dl : (pwr r (pad (encB kd' its')) s1).dir.length ≤ s1.dir.length + 1 := aput_len _ _ _
          walk_at "rd"
          refine ⟨p, q, O4, Od, _, ch.c, rfl, W4.pg, by omega, z0, fun H5 O5 P5 t5 => ?_⟩
          have W5 := W4.pager P5 t5
          walk_at "rd"
          refine ⟨kd', its', l3, ws3, O5, _, _, rfl, W5, ((t2.trans (Stp.pure k3)).trans t4).trans t5, t5.kp.get el4 nl4, hv3.mono fun _ _ z => (z.kp t4.kp).kp t5.kp, t5.kp0 el4 nl4, dc.kk, dc.lz, fun it hi => (oki it hi).kd (by omega), lw'⟩
def sp_KeyTree_replace (c : Cl) (K : PySem.W.Frag) : Sp := fun vs H Q _ => ∃ (kt p q : Addr) (r : Int) (D : Nat) (kk bb e m : Int) (path : List (Int × Nat)) (es : List Itm) (O Od : Addr → Prop) (s : PgS), vs = [.ref kt, .int kk, .int bb, .int e] ∧ KW c H kt p q r D O Od s ∧ Way D (gpg s) kk bb r path m es ∧ (∀ it ∈ es, ∃ pt pl, it.x = some (pt, pl)) ∧ (∀ it ∈ es, KdI 1 it) ∧ es.length ≤ 800 ∧ path.length ≤ 900 ∧ D ≤ 8 ∧ (encB 1 (es.map (repI kk bb e))).length ≤ 256 ∧ s.dir.length ≤ 900000 ∧
  ∀ H' O', PagAt c H' p q O' Od (pwr m (pad (encB 1 (es.map (repI kk bb e)))) s) → Stp O O' H H' → Q .non H'
theorem ok_KeyTree_replace (T : Txt K mg c) : GM P w K mg base CX0 7 c.KeyTree "replace" (sp_KeyTree_replace c K) := by
  obtain ⟨f, fd, F, gf, gi⟩ := T.f_KeyTree_replace
  obtain ⟨_, mg_LEAF⟩ := T.m_LEAF
  have tc_KeyTree := T.cl_KeyTree; have tn_KeyTree_pager := T.n_KeyTree_pager; have tn_KeyTree_root := T.n_KeyTree_root; have tn_KeyTree_dimensions := T.n_KeyTree_dimensions
  refine ⟨f, fd, ["self", "key", "begin", "end"], F.ok sc_KeyTree_replace ?_ (fun cdv A outer s0 H vs Q E hr h => ?_), ⟨gf, gi, F.kp⟩, (F.binds (ps := ["self", "key", "begin", "end"]) fun _ _ _ _ _ _ us hl => match us, hl with | [_, _, _, _], _ => rfl)⟩
  · rintro vs H Q E ⟨_, _, _, _, _, _, _, _, _, _, _, _, _, _, rfl, _⟩
    rfl
  · obtain ⟨kt, p, q, r, D, kk, bb, e, m, path, es, O, Od, s, rfl, W, way, hx, hki, le, lp, hD, lf, ds, k⟩ := h
    obtain ⟨dx, ho⟩ := W.ka.o
    refine ⟨_, (pss_cons (ps_asg (pe_gm T.cl_KeyTree (ok_KeyTree_path_to T) (pv 0) (hr.mono (by decide)) pass0S (pa_cons (pe_tup (pa_cons (pv 1) (pa_cons (pv 2) pa_nil))) pa_nil)) (pg_kT rfl (pg_tup (n := 3) rfl (pgs_cons (pg_name (i := 4) sc_KeyTree_replace.nd rfl (Or.inl rfl)) (pgs_cons (pg_name (i := 5) sc_KeyTree_replace.nd rfl (Or.inl rfl)) (pgs_cons (pg_name (i := 6) sc_KeyTree_replace.nd rfl (Or.inl rfl)) pgs_nil))))))
      (pss_cons (ps_for PassesOwn.never rfl (pi_range1 (by rfl) T.z_range (pa_cons (pe_callB (r := rLenQ K) c_len (by rfl) T.z_len PySem.boot_len (pa_cons (pv 6) pa_nil)) pa_nil)) (pg_name (i := 7) sc_KeyTree_replace.nd rfl (Or.inl rfl)) (pss_one (ps_if (pt_cmpR (r := rEqD K) (op_eqD hr.units) (pe_g (ok_pair_of T) (hr.mono (by decide)) pass0S (pa_cons (pe_ix (r := rIxL K) ix_list (pv 6) (pv 7) (fun _ _ => rfl)) pa_nil)) (pe_tup (pa_cons (pv 1) (pa_cons (pv 2) pa_nil))) (nomark _)) (pss_one (ps_asg (pe_op (r := rCatA K) op_catA (pe_tup (pa_cons (pv 1) (pa_cons (pv 2) (pa_cons (pv 3) pa_nil)))) (pe_slice (r := rSlA K) sl_tupA (pe_ix (r := rIxL K) ix_list (pv 6) (pv 7) (fun _ _ => rfl)) (po_some pe_int) po_none)) (pg_sub (pv 6) (pv 7) set_list))) pss_nil)))
      (pss_one (ps_expr (pe_gm T.cl_KeyTree (ok_KeyTree_store T) (pv 0) (hr.mono (by decide)) pass0S (pa_cons (pv 5) (pa_cons (pe_glob (v := .int 1) rfl mg_LEAF ⟨_, rfl⟩) (pa_cons (pv 6) pa_nil)))))))), ?_⟩
    walk_at "cx"
    walk_at "rd"
    refine x_newT fun t1 H1 ht1 k1 e1 => ?_
    have ho1 := k1.get ho id
    have W1 := W.pure k1
    walk_at "rd"
    refine ⟨kt, p, q, t1, r, D, kk, bb, m, path, es, O, Od, s, rfl, W1.ka, W1.pg, SqT.of e1, way, by omega, hD, fun H2 t2 pl l pvs ws k2 e2 fpl fl npl hpl hpv hl hws => ?_⟩
    have W2 := W1.pure k2
    have lws := hws.length
    have nl := W1.pg.fresh fl
    walk_at "rd"
    rw [lws]
    walk_at "rd"
    refine wfor Wk.rng (fun i σ H' => ∃ ws' u, σ = [some (.ref kt), some (.int kk), some (.int bb), some (.int e), some (.ref pl), some (.int m), some (.ref l), u] ∧ H' l = some (.lst ws') ∧ ItVs K H' ws' ((es.take i).map (repI kk bb e) ++ es.drop i) ∧ Kp F0 H1 H')
      ⟨ws, none, rfl, hl, by simpa using hws, k2⟩ (fun _ _ _ _ => trivial) ?_ ?_
    · rintro i x σ H3 ex ⟨ws', u, rfl, hl3, hv3, k3⟩
      obtain ⟨hi, rfl⟩ := rgl_at ex
      have hi' : i < es.length := hi
      obtain ⟨it, ei⟩ : ∃ it, es[i]? = some it := ⟨_, List.getElem?_eq_getElem hi'⟩
      have lw' := hv3.length
      rw [List.length_append, List.length_map, List.length_take, List.length_drop] at lw'
      have dr : es.drop i = it :: es.drop (i + 1) := by rw [List.drop_eq_getElem_cons hi', (List.getElem?_eq_some_iff.mp ei).2]
      have gi : ((es.take i).map (repI kk bb e) ++ es.drop i)[i]? = some it := by
        rw [List.getElem?_append_right (by rw [List.length_map, List.length_take]; omega), List.length_map, List.length_take, Nat.min_eq_left (by omega), Nat.sub_self, dr]; rfl
      obtain ⟨v, ev, hit⟩ := pgetr hv3 gi
      walk_at "rd"
      refine x_ixL (v := v) (SqL.of hl3) (atI_at i (by omega) ev) ?_
      walk_at "rd"
      refine ⟨v, it, rfl, hit, fun H4 t4 k4 e4 => ?_⟩
      walk_at "rd"
      refine x_newT fun t5 H5 ht5 k5 e5 => ?_
      refine x_eqTI (ns := [it.a, it.b]) (ms := [kk, bb]) (k5.sqT e4) (SqT.of e5) ?_
      have k35 : Kp F0 H3 H5 := k4.trans k5 fun _ z => z.elim
      have k15 : Kp F0 H1 H5 := k3.trans k35 fun _ z => z.elim
      have hl5 := k35.get hl3 id
      have nx : (es.take (i + 1)).map (repI kk bb e) ++ es.drop (i + 1) = ((es.take i).map (repI kk bb e) ++ es.drop i).set i (repI kk bb e it) := by
        rw [List.set_append_right _ _ (by rw [List.length_map, List.length_take]; omega), List.length_map, List.length_take, Nat.min_eq_left (by omega), Nat.sub_self, dr, List.take_succ, ei, List.map_append, List.append_assoc]; rfl
      by_cases he : [it.a, it.b] = [kk, bb]
      · rw [decide_eq_true he]
        have ha : it.a = kk := by simpa using (List.cons.inj he).1
        have hb : it.b = bb := by simpa using (List.cons.inj (List.cons.inj he).2).1
        obtain ⟨pt, pll, ex⟩ := hx it (List.mem_of_getElem? ei)
        obtain ⟨tt, rfl, ht⟩ := hit
        rw [ex] at ht
        obtain ⟨p1, p2, h0, h1, h2⟩ := ht
        walk_at "rd"
        refine x_newT fun t6 H6 ht6 k6 e6 => ?_
        walk_at "rd"
        refine x_ixL (v := .ref tt) (SqL.of (k6.get hl5 id)) (atI_at i (by omega) ev) ?_
        walk_at "rd"
        refine x_slT (k6.sqT (k35.sqT h0)) fun t7 H7 k7 e7 => ?_
        have e7' : SqT K H7 t7 [.ref p1, .ref p2] := e7
        refine x_catT (k7.sqT (SqT.of e6)) e7' (Nat.le_of_ble_eq_true rfl) fun t8 H8 k8 e8 => ?_
        have k68 : Kp F0 H5 H8 := (k6.trans k7 fun _ z => z.elim).trans k8 fun _ z => z.elim
        have hl8 := k68.get hl5 id
        walk_at "rd"
        refine x_setL hl8 (j := i) (by unfold ixN; rw [if_pos (by omega), if_pos (by omega)]; congr 1; omega) ?_
        have k9 : Kp (F1 l) H8 (upd H8 l (.lst (ws'.set i (.ref t8)))) := Kp.put hl8 id
        have e9 : (upd H8 l (.lst (ws'.set i (.ref t8))) : Hp) l = some (.lst (ws'.set i (.ref t8))) := upd_same
        generalize upd H8 l (.lst (ws'.set i (.ref t8))) = H9 at k9 e9 ⊢
        refine ⟨_, some (.int (0 + (i : Int))), rfl, e9, ?_, fun x o hx _ => k9.get (k68.get (k15.get hx id) id) (ne_of_none hx fl)⟩
        rw [nx]
        have pset : ∀ {l : List V} {m : List Itm} {R : V → Itm → Prop} (i : Nat) {x : V} {y : Itm}, Paired R l m → R x y → Paired R (l.set i x) (m.set i y) := fun {l m R} i {x y} h r => by
          induction h generalizing i with
          | nil => exact .nil
          | cons a b ih => cases i with
            | zero => exact .cons r b
            | succ i => exact .cons a (ih i)
        refine pset i (hv3.mono fun _ _ z => ((z.kp k35).kp k68).kp k9) ⟨t8, rfl, ?_⟩
        have er : repI kk bb e it = ⟨it.a, it.b, e, some (pt, pll)⟩ := by unfold repI; rw [if_pos ⟨ha, hb⟩, ex]
        rw [er]
        refine ⟨p1, p2, ?_, k9.sqT (k68.sqT (k35.sqT h1)), k9.sqT (k68.sqT (k35.sqT h2))⟩
        have z := k9.sqT e8
        rw [← ha, ← hb] at z
        exact z
      · rw [decide_eq_false he]
        walk_at "rd"
        refine ⟨ws', some (.int (0 + (i : Int))), rfl, hl5, ?_, k15⟩
        have er : repI kk bb e it = it := by unfold repI; rw [if_neg fun z => he (by rw [z.1, z.2])]
        rw [nx, er]
        have es' : ((es.take i).map (repI kk bb e) ++ es.drop i).set i it = (es.take i).map (repI kk bb e) ++ es.drop i := by
          refine List.ext_getElem? fun j => ?_
          rw [List.getElem?_set]
          split
          · rename_i h
            subst h
            rw [gi, if_pos (List.getElem?_eq_some_iff.mp gi).1]
          · rfl
        rw [es']
        exact hv3.mono fun _ _ z => z.kp k35
    · rintro σ H3 ⟨ws', u, rfl, hl3, hv3, k3⟩
      have lr : (rgl 0 (es.length : Int).toNat).length = es.length := by rw [rgl_len]; omega
      rw [lr, List.take_length, List.drop_length, List.append_nil] at hv3
      have W3 := W1.pure k3
      have ho3 := k3.get ho1 id
      walk_at "rd"
      refine ⟨kt, p, q, r, D, 1, m, l, ws', es.map (repI kk bb e), O, Od, s, rfl, W3.ka, W3.pg, hl3, hv3, fun it hi => ?_, by rw [List.length_map]; omega, lf, by omega, fun H4 O4 P4 t4 => ?_⟩
      · obtain ⟨it', hi', rfl⟩ := List.mem_map.mp hi
        rcases hki it' hi' with ⟨_, pt, pll, ex, l1, l2⟩ | ⟨z, _⟩
        · refine .inl ⟨rfl, pt, pll, ?_, l1, l2⟩
          unfold repI; split <;> exact ex
        · exact absurd z (by decide)
      · walk_at "rd"
        exact k H4 O4 P4 ((Stp.pure (k1.trans k3 fun _ z => z.elim)).trans t4)
end
theorem Stp.off1 {G G1 : Addr → Prop} {H H1 H2 : Hp} {x : Addr} (s : Stp G G1 H H1) (k : Kp (F1 x) H1 H2) (hx : H x = none) : Stp G G1 H H2 :=
  ⟨fun b o hb n => k.get (s.kp b o hb n) (ne_of_none hb hx), s.gr⟩
theorem seqIx {i n : Nat} (h : i < n) : seqIndex? (i : Int) n = some i := by
  unfold seqIndex?
  simp
  omega
theorem pr_erase {α β : Type} {R : α → β → Prop} : ∀ {l : List α} {m : List β} (n : Nat), Paired R l m → Paired R (l.eraseIdx n) (m.eraseIdx n)
  | _, _, _, .nil => .nil
  | _, _, 0, .cons _ t => t
  | _, _, n + 1, .cons r t => .cons r (pr_erase n t)
section
variable {P : Program} {w : World} {K : PySem.W.Frag} {mg : Str → Option Value} {base : Heap} {c : Cl}
def sp_KeyTree_delete (c : Cl) (K : PySem.W.Frag) : Sp := fun vs H Q _ => ∃ (kt p q : Addr) (r : Int) (D mm : Nat) (kk bb m kd : Int) (path : List (Int × Nat)) (es its : List Itm) (O Od : Addr → Prop) (s s1 s' : PgS), vs = [.ref kt, .int kk, .int bb] ∧ KW c H kt p q r D O Od s ∧ Way D (gpg s) kk bb r path m es ∧ path.length ≤ 900 ∧ D ≤ 8 ∧ es.length ≤ 800 ∧ Dl D path m 1 (delI kk bb es) s s1 ∧ Dec D (gpg s1 r) kd its ∧ Lw D r mm kd its s1 s' ∧
  ∀ H' O', PagAt c H' p q O' Od s' → Stp O O' H H' → Q .non H'
theorem ok_KeyTree_delete (T : Txt K mg c) : GM P w K mg base CX0 8 c.KeyTree "delete" (sp_KeyTree_delete c K) := by
  obtain ⟨f, fd, F, gf, gi⟩ := T.f_KeyTree_delete
  obtain ⟨_, mg_LEAF⟩ := T.m_LEAF
  have tc_KeyTree := T.cl_KeyTree; have tn_KeyTree_pager := T.n_KeyTree_pager; have tn_KeyTree_root := T.n_KeyTree_root; have tn_KeyTree_dimensions := T.n_KeyTree_dimensions
  have tc_Pager := T.cl_Pager; have tn_Pager_device := T.n_Pager_device; have tn_Pager_committed := T.n_Pager_committed; have tn_Pager_dirty := T.n_Pager_dirty
  refine ⟨f, fd, ["self", "key", "begin"], F.ok sc_KeyTree_delete ?_ (fun cdv A outer s0 H vs Q E hr h => ?_), ⟨gf, gi, F.kp⟩, (F.binds (ps := ["self", "key", "begin"]) fun _ _ _ _ _ _ us hl => match us, hl with | [_, _, _], _ => rfl)⟩
  · rintro vs H Q E ⟨_, _, _, _, _, _, _, _, _, _, _, _, _, _, _, _, _, _, rfl, _⟩
    rfl
  · obtain ⟨kt, p, q, r, D, mm, kk, bb, m, kd0, path, es, its0, O, Od, s, s1, s', rfl, W, way, lp, hD, le, dl, dec, lw, k⟩ := h
    obtain ⟨dx, ho⟩ := W.ka.o
    refine ⟨_, (pss_cons (ps_asg (pe_gm T.cl_KeyTree (ok_KeyTree_path_to T) (pv 0) (hr.mono (by decide)) pass0S (pa_cons (pe_tup (pa_cons (pv 1) (pa_cons (pv 2) pa_nil))) pa_nil)) (pg_kT rfl (pg_tup (n := 3) rfl (pgs_cons (pg_name (i := 3) sc_KeyTree_delete.nd rfl (Or.inl rfl)) (pgs_cons (pg_name (i := 4) sc_KeyTree_delete.nd rfl (Or.inl rfl)) (pgs_cons (pg_name (i := 5) sc_KeyTree_delete.nd rfl (Or.inl rfl)) pgs_nil))))))
      (pss_cons (ps_setLc (i := 5) (own := [("item", 8)]) (g := (gName 8)) rfl sc_KeyTree_delete.nd rfl rfl (sw_true rfl rfl rfl (by decide +kernel)) (pi_listK rfl (pv 5)) (blkOk_by (N := ["self", "key", "begin", "path", "number", "items", "kind", "place", "item"]) (sc := defScope s_KeyTree_delete) (by decide +kernel)) (fun _ _ _ _ _ => (pg_name (i := 8) sc_KeyTree_delete.nd rfl (Or.inl rfl))) (fun _ _ _ _ _ => (pts_one (pt_cmpR (r := rNeD K) (op_neD hr.units) (pe_g (ok_pair_of T) (hr.mono (by decide)) pass0S (pa_cons (pv 8) pa_nil)) (pe_tup (pa_cons (pv 1) (pa_cons (pv 2) pa_nil))) (nomark _)))) (fun _ _ _ _ _ => (pv 8)))
      (pss_cons (ps_set (i := 6) sc_KeyTree_delete.nd rfl (Or.inl rfl) (pe_glob (v := .int 1) rfl mg_LEAF ⟨_, rfl⟩))
      (pss_cons (ps_while PassesOwn.never (PW.pt (pw_and (pt_cmpR op_eq (pe_callB (r := rLenQ K) c_len (by rfl) T.z_len PySem.boot_len (pa_cons (pv 5) pa_nil)) pe_int (nomark _)) (pw_and1 (pt_cmpR op_gt (pe_callB (r := rLenQ K) c_len (by rfl) T.z_len PySem.boot_len (pa_cons (pv 3) pa_nil)) pe_int (nomark _))))) (pss_cons (ps_expr (pe_gm T.cl_Pager (ok_Pager_release T) (pe_fldK rfl (pv 0)) (hr.mono (by decide)) pass0S (pa_cons (pv 4) pa_nil)))
      (pss_cons (ps_asg (pe_kBM0 rfl (pe_bm0 PySem.F.plainAttrs_list PySem.F.slot_list_pop PySem.F.type_list_pop mt_pop (pv 3))) (pg_kT rfl (pg_tup (n := 2) rfl (pgs_cons (pg_name (i := 4) sc_KeyTree_delete.nd rfl (Or.inl rfl)) (pgs_cons (pg_name (i := 7) sc_KeyTree_delete.nd rfl (Or.inl rfl)) pgs_nil)))))
      (pss_cons (ps_asg (pe_gm T.cl_KeyTree (ok_KeyTree_load T) (pv 0) (hr.mono (by decide)) pass0S (pa_cons (pv 4) pa_nil)) (pg_kT rfl (pg_tup (n := 2) rfl (pgs_cons (pg_name (i := 6) sc_KeyTree_delete.nd rfl (Or.inl rfl)) (pgs_cons (pg_name (i := 5) sc_KeyTree_delete.nd rfl (Or.inl rfl)) pgs_nil)))))
      (pss_one (ps_expr (pe_kBM rfl (pe_bm PySem.F.plainAttrs_list PySem.F.slot_list_pop PySem.F.type_list_pop mt_popAt (pv 5) (pa_cons (pv 7) pa_nil)))))))))
      (C8.pss_cut (ps_if (pt_cmpR op_eq (pe_callB (r := rLenQ K) c_len (by rfl) T.z_len PySem.boot_len (pa_cons (pv 5) pa_nil)) pe_int (nomark _)) (pss_one (ps_set (i := 6) sc_KeyTree_delete.nd rfl (Or.inl rfl) (pe_glob (v := .int 1) rfl mg_LEAF ⟨_, rfl⟩))) pss_nil)
      (pss_cons (ps_expr (pe_gm T.cl_KeyTree (ok_KeyTree_store T) (pv 0) (hr.mono (by decide)) pass0S (pa_cons (pv 4) (pa_cons (pv 6) (pa_cons (pv 5) pa_nil)))))
      (pss_one (ps_expr (pe_gm0 T.cl_KeyTree (ok_KeyTree_lower T) (pv 0) (hr.mono (by decide)) pass0S))))))))), ?_⟩
    walk_at "cx"
    walk_at "rd"
    refine x_newT fun t1 H1 ht1 k1 e1 => ?_
    have ho1 := k1.get ho id
    have W1 := W.pure k1
    walk_at "rd"
    refine ⟨kt, p, q, t1, r, D, kk, bb, m, path, es, O, Od, s, rfl, W1.ka, W1.pg, SqT.of e1, way, by omega, hD, fun H2 t2 pl l pvs ws k2 e2 fpl fl npl hpl hpv hl hws => ?_⟩
    have W2 := W1.pure k2
    have lws := hws.length
    walk_at "rd"
    refine wlcH (Wk.list (xs := ws)) F0 (fun D' i acc H' => ItVs K H' acc (delI kk bb (es.take i))) (fun b z => z.elim) (by omega) (fun D' i acc H' _ s => SqL.of (s.get hl id)) (fun _ _ => .nil) (fun D' i acc H' H4 k h => h.mono fun _ _ z => z.kp k) (fun D' i x acc H' R R0 ex hD' hacc pv kp hR hR0 => ?_) (fun z H3 acc hz hz3 pv k3 => ?_)
    · obtain ⟨y, ey, hy⟩ := pgt hws ex
      have tk : es.take (i + 1) = es.take i ++ [y] := by rw [List.take_succ, ey]; rfl
      walk_at "rd"
      refine ⟨rfl, ?_⟩
      walk_at "rd"
      refine ⟨x, y, rfl, hy.kp kp, fun H4 t4 k4 e4 => ?_⟩
      walk_at "rd"
      refine x_newT fun t5 H5 ht5 k5 e5 => ?_
      refine x_neTI (ns := [y.a, y.b]) (ms := [kk, bb]) (k5.sqT e4) (SqT.of e5) ?_
      have k45 : Kp F0 H' H5 := k4.trans k5 fun _ z => z.elim
      have ed : delI kk bb (es.take (i + 1)) = delI kk bb (es.take i) ++ (if [y.a, y.b] = [kk, bb] then [] else [y]) := by
        unfold delI
        rw [tk, List.filter_append, List.filter_cons]
        by_cases q : [y.a, y.b] = [kk, bb]
        · rw [if_neg (by simp [q]), if_pos q]; rfl
        · rw [if_pos (by simp [q]), if_neg q]; rfl
      by_cases q : [y.a, y.b] = [kk, bb]
      · rw [decide_eq_true q]
        rw [if_pos q, List.append_nil] at ed
        walk_at "rd"
        exact hR0 H5 k45 (by rw [ed]; exact pv.mono fun _ _ z => z.kp k45)
      · rw [decide_eq_false q]
        rw [if_neg q] at ed
        walk_at "rd"
        exact hR _ H5 k45 (by rw [ed]; exact pr_app (pv.mono fun _ _ z => z.kp k45) (.cons ((hy.kp kp).kp k45) .nil))
    · rw [lws, List.take_length] at pv
      have k03 : Kp F0 H H3 := (k1.trans k2 fun _ z => z.elim).trans k3 fun _ z => z.elim
      have fpl0 : H pl = none := k1.free fpl id
      have W3 := W2.pure k3
      have fz : ¬ O z := W2.pg.fresh hz
      have npz : pl ≠ z := ne_of_none hpl hz
      walk_at "rd"
      refine x_wh (fun mm σ H' => ∃ path n l ws its kd pvs O' s2 u7, mm = path.length ∧ σ = [some (.ref kt), some (.int kk), some (.int bb), some (.ref pl), some (.int n), some (.ref l), some (.int kd), u7, none] ∧ KW c H' kt p q r D O' Od s2 ∧ Stp O O' H H' ∧ H' pl = some (.lst pvs) ∧ Paired (PthV K H') pvs path ∧ ¬ O' pl ∧ H' l = some (.lst ws) ∧ ItVs K H' ws its ∧ ¬ O' l ∧ Dl D path n kd its s2 s1) ?_ ?_
      · exact ⟨path.length, path, m, z, acc, _, 1, pvs, O, s, none, rfl, rfl, W3, Stp.pure k03, k3.get hpl id, hpv.mono fun _ _ z => z.kp k3, W1.pg.fresh fpl, hz3, pv, fz, dl⟩
      · rintro mm' σ H4 ⟨path', n, l', ws', its, kd, pvs', O4, s2, u7, rfl, rfl, W4, t4, hpl4, hpv4, npl4, hl4, hv4, nl4, dl4⟩
        have lp4 := hpv4.length
        have lw4 := hv4.length
        walk_at "rd"
        rw [lw4]
        cases dl4 with
        | stop hst si lf =>
          obtain ⟨dx4, ho4⟩ := W4.ka.o
          refine if_both ?_ fun hb rest => ?_
          · walk_at "rd"
            refine x_cut (fun σ' H' => H' = H4 ∧ σ' = [some (.ref kt), some (.int kk), some (.int bb), some (.ref pl), some (.int n), some (.ref l'), some (.int (if its = [] then 1 else kd)), u7, none]) ?_ ?_
            · walk_at "rd"
              rw [lw4]
              refine ite_dec (fun e => ?_) fun e => ?_
              · have e' : its = [] := List.eq_nil_of_length_eq_zero (by omega)
                walk_at "rd"
                exact ⟨rfl, by rw [if_pos e']; rfl⟩
              · have e' : ¬ its = [] := fun z => e (by rw [z]; rfl)
                exact ⟨rfl, by rw [if_neg e']⟩
            · rintro σ' H' ⟨rfl, rfl⟩
              walk_at "rd"
              refine ⟨kt, p, q, r, D, (if its = [] then 1 else kd), n, l', ws', its, O4, Od, s2, rfl, W4.ka, W4.pg, hl4, hv4, fun it hi => ?_, by have := si.lz; omega, lf, by have := si.ds; omega, fun H5 O5 P5 t5 => ?_⟩
              · rw [if_neg fun z => by rw [z] at hi; cases hi]; exact si.k it hi
              · have W5 := W4.pager P5 t5
                obtain ⟨dx5, ho5⟩ := W5.ka.o
                walk_at "rd"
                refine ⟨kt, p, q, r, D, mm, kd0, its0, O5, Od, _, s', rfl, W5, dec, lw, hD, fun H6 O6 P6 t6 => ?_⟩
                walk_at "rd"
                exact k H6 O6 P6 ((t4.trans t5).trans t6)
          · have e' : its = [] := List.eq_nil_of_length_eq_zero (by have := of_decide_eq_true hb; omega)
            have ep := hst e'
            rw [ep] at lp4
            walk_at "rd"
            rw [decide_eq_false (by rw [lp4]; decide)]
            exact rest
        | climb si dc pcl dl5 =>
          rename_i path5 pc par cs
          obtain ⟨dx4, ho4⟩ := W4.ka.o
          obtain ⟨⟨dy, a1, a2, y1, y2, DP⟩, _⟩ := id W4.pg
          have hop := DP.o
          obtain ⟨pv5, xv, epv, hpv5, t9, ext, ht9⟩ := pr_snoc hpv4
          rw [ext] at epv
          rw [epv] at hpl4
          rw [decide_eq_true (by rfl)]
          walk_at "rd"
          rw [decide_eq_true (by rw [List.length_append, List.length_singleton]; omega)]
          walk_at "rd"
          refine ⟨_, fun σ' H' z => ⟨path5.length, by rw [List.length_append, List.length_singleton]; omega, z⟩, ?_⟩
          walk_at "rd"
          refine ⟨p, q, O4, Od, s2, n, rfl, W4.pg, by have := si.ds; omega, si.z0, fun H5 O5 P5 t5 => ?_⟩
          have W5 := W4.pager P5 t5
          have hpl5 := t5.kp.get hpl4 npl4
          have npl5 := t5.kp0 hpl4 npl4
          have ht95 := t5.kp.sqT ht9
          walk_at "rd"
          refine ⟨pl, pv5 ++ [.ref t9], .ref t9, rfl, rfl, hpl5, by simp, ?_⟩
          rw [List.dropLast_concat]
          have k6 : Kp (F1 pl) H5 (upd H5 pl (.lst pv5)) := Kp.put hpl5 id
          have e6 : (upd H5 pl (.lst pv5) : Hp) pl = some (.lst pv5) := upd_same
          generalize upd H5 pl (.lst pv5) = H6 at k6 e6 ⊢
          have nkp : kt ≠ pl := fun z => by rw [z, fpl0] at ho; cases ho
          have W6 := W5.off k6 (fun b z => by rw [z]; exact npl5) nkp
          obtain ⟨dx6, ho6⟩ := W6.ka.o
          have ht96 := k6.sqT ht95
          walk_at "rd"
          refine ⟨kt, p, q, r, D, _, 2, cs, O5, Od, _, rfl, W6.ka, W6.pg, dc, hD, fun H7 t7 l7 ws7 k7 e7 f7 el7 hv7 => ?_⟩
          have W7 := W6.pure k7
          have lw7 := hv7.length
          walk_at "rd"
          obtain ⟨y, ey⟩ : ∃ y, ws7[pc]? = some y := ⟨_, List.getElem?_eq_getElem (by omega)⟩
          have lcs := dc.lz
          refine ⟨l7, ws7, (pc : Nat), pc, y, rfl, rfl, el7, by omega, by omega, seqIx (by omega), ey, ?_⟩
          have k8 : Kp (F1 l7) H7 (upd H7 l7 (.lst (ws7.eraseIdx pc))) := Kp.put el7 id
          have e8 : (upd H7 l7 (.lst (ws7.eraseIdx pc)) : Hp) l7 = some (.lst (ws7.eraseIdx pc)) := upd_same
          generalize upd H7 l7 (.lst (ws7.eraseIdx pc)) = H8 at k8 e8 ⊢
          have nl7 := W6.pg.fresh f7
          have W8 := W7.off k8 (fun b z => by rw [z]; exact nl7) (ne_of_none ho6 f7)
          have np7 : pl ≠ l7 := ne_of_none e6 f7
          have k68 : Kp F0 H6 H8 := fun x o hx _ => k8.get (k7.get hx id) (ne_of_none hx f7)
          have t8 : Stp O O5 H H8 := ((t4.trans t5).off1 k6 fpl0).trans (Stp.pure k68)
          walk_at "rd"
          exact ⟨path5, par, l7, _, _, 2, pv5, O5, _, _, rfl, rfl, W8, t8, k8.get (k7.get e6 id) np7, hpv5.mono fun _ _ z => (((z.kp t5.kp).kp k6).kp k7).kp k8, npl5, e8, pr_erase _ (hv7.mono fun _ _ z => z.kp k8), nl7, dl5⟩
end
/-! ### the pages of a pager: free ones and taken ones -/
structure FR (i : Nat) (s : PgS) (m : Int) (f t : List Int) : Prop where
  z : ∀ n, (gpg s n).length = 256
  many : vf (gpg s) 6 = m
  chain : Chain (fun n => rn ((gpg s n).take 4)) (vf (gpg s) 7) f
  nd : (f ++ t).Nodup
  rg : ∀ n ∈ f ++ t, 1 ≤ n ∧ n < m
  fu : ∀ n, 1 ≤ n → n < m → n ∈ f ++ t
  m1 : 1 ≤ m
  mb : m ≤ 1 + i
  dl : s.dir.length ≤ 2 * i
theorem FR.le {i j : Nat} {s : PgS} {m : Int} {f t : List Int} (h : FR i s m f t) (l : i ≤ j) : FR j s m f t :=
  ⟨h.z, h.many, h.chain, h.nd, h.rg, h.fu, h.m1, by have := h.mb; omega, by have := h.dl; omega⟩
theorem FR.perm {i : Nat} {s : PgS} {m : Int} {f t t' : List Int} (h : FR i s m f t) (p : t.Perm t') : FR i s m f t' :=
  have q := List.Perm.append_left f p
  ⟨h.z, h.many, h.chain, q.nodup_iff.mp h.nd, fun n hn => h.rg n (q.mem_iff.mpr hn), fun n a b => q.mem_iff.mp (h.fu n a b), h.m1, h.mb, h.dl⟩
theorem FR.pos {i : Nat} {s : PgS} {m : Int} {f t : List Int} (h : FR i s m f t) {n : Int} (hn : n ∈ t) : 1 ≤ n ∧ n < m := h.rg n (List.mem_append.mpr (.inr hn))
theorem FR.nf {i : Nat} {s : PgS} {m : Int} {f t : List Int} (h : FR i s m f t) {n : Int} (hn : n ∈ t) {x : Int} (hx : x ∈ f) : x ≠ n := fun e => by
  subst e
  exact (List.nodup_append.mp h.nd).2.2 x hx x hn rfl
theorem FR.ndt {i : Nat} {s : PgS} {m : Int} {f t : List Int} (h : FR i s m f t) : t.Nodup := (List.nodup_append.mp h.nd).2.1
theorem FR.write {i : Nat} {s : PgS} {m : Int} {f t : List Int} {n : Int} {ds : List Int} (h : FR i s m f t) (hn : n ∈ t) (hl : ds.length = 256) : FR (i + 1) (pwr n ds s) m f t := by
  have n0 : n ≠ 0 := by have := (h.pos hn).1; omega
  refine ⟨fun x => ?_, ?_, ?_, h.nd, h.rg, h.fu, h.m1, by have := h.mb; omega, ?_⟩
  · rw [gpg_pwr]; unfold vput; split
    · exact hl
    · exact h.z x
  · rw [gpg_pwr, vput_vf _ _ n0]; exact h.many
  · rw [gpg_pwr, vput_vf _ _ n0]
    exact h.chain.mono fun x hx => by
      show rn ((gpg s x).take 4) = rn ((vput (gpg s) n ds x).take 4)
      rw [vput_ne _ _ (h.nf hn hx)]
  · have := pwr_len s n ds; have := h.dl; omega
def alN (m : Int) (f : List Int) : Int := f.headD m
def alM (m : Int) (f : List Int) : Int := if f = [] then m + 1 else m
theorem FR.alloc {i : Nat} {s : PgS} {m : Int} {f t : List Int} (h : FR i s m f t) (hi : i ≤ 400000) :
    (palloc s).2 = alN m f ∧ FR (i + 1) (palloc s).1 (alM m f) f.tail (alN m f :: t) ∧ ∀ x ∈ t, gpg (palloc s).1 x = gpg s x := by
  have m1 := h.m1; have mb := h.mb
  have h7 : vf (gpg s) 7 = (f ++ [0]).headD 0 := h.chain.head
  have hz : 4 * (6 + 1) ≤ (gpg s 0).length := by rw [h.z]; decide
  have hz7 : 4 * (7 + 1) ≤ (gpg s 0).length := by rw [h.z]; decide
  cases f with
  | nil =>
    have h7 : vf (gpg s) 7 = 0 := h7
    have e : palloc s = (pwr m zeros (setf 6 (m + 1) s), m) := by unfold palloc; rw [fld_vf, fld_vf, h7, if_pos rfl, h.many]
    have n0 : m ≠ 0 := by omega
    have g : gpg (pwr m zeros (setf 6 (m + 1) s)) = vput (vset (gpg s) 6 (m + 1)) m zeros := by rw [gpg_pwr, gpg_set]
    have fv : ∀ j, vf (vput (vset (gpg s) 6 (m + 1)) m zeros) j = if j = 6 then m + 1 else vf (gpg s) j := fun j => by
      rw [vput_vf _ _ n0]; exact vset_vf (by omega) (by omega) hz
    rw [e]
    refine ⟨rfl, ⟨fun x => ?_, ?_, ?_, ?_, fun x hx => ?_, fun x a b => ?_, ?_, ?_, ?_⟩, fun x hx => ?_⟩
    · rw [g]; unfold vput; split
      · exact zeros_len
      · unfold vset vput; split
        · rw [spl_len hz]; exact h.z 0
        · exact h.z x
    · rw [g, fv, if_pos rfl]; rfl
    · rw [g, fv, if_neg (by decide)]; exact h7
    · show (m :: t).Nodup
      refine List.nodup_cons.mpr ⟨fun z => ?_, h.ndt⟩
      have := h.pos z
      omega
    · show 1 ≤ x ∧ x < m + 1
      rcases List.mem_cons.mp (show x ∈ m :: t from hx) with rfl | q
      · omega
      · have := h.pos q; omega
    · show x ∈ m :: t
      by_cases q : x = m
      · rw [q]; simp
      · exact List.mem_cons_of_mem _ (h.fu x a (by unfold alM at b; rw [if_pos rfl] at b; omega))
    · show 1 ≤ m + 1; omega
    · show m + 1 ≤ 1 + ((i + 1 : Nat) : Int); omega
    · have := pwr_len (setf 6 (m + 1) s) m zeros; have := setf_len s 6 (m + 1); have := h.dl; show (pwr m zeros (setf 6 (m + 1) s)).dir.length ≤ _; omega
    · show gpg (pwr m zeros (setf 6 (m + 1) s)) x = _
      have := h.pos hx
      rw [g, vput_ne _ _ (by omega), vset_ne _ _ _ (by omega)]
  | cons n r =>
    have c := h.chain
    have rg := h.rg
    have nd := h.nd
    have en : vf (gpg s) 7 = n := c.1
    have n0 : n ≠ 0 := by have := (rg n (by simp)).1; omega
    have e : palloc s = (pwr n zeros (setf 7 (rn ((gpg s n).take 4)) s), n) := by unfold palloc; rw [fld_vf, fld_vf, en, if_neg n0]
    have hx := c.2.head
    have xb : 0 ≤ rn ((gpg s n).take 4) ∧ rn ((gpg s n).take 4) < 256 ^ 4 := by
      show 0 ≤ (fun n => rn ((gpg s n).take 4)) n ∧ (fun n => rn ((gpg s n).take 4)) n < 256 ^ 4
      rw [hx]
      cases r with
      | nil => exact ⟨by decide, by decide⟩
      | cons y r => have := rg y (by simp); show 0 ≤ y ∧ y < 256 ^ 4; omega
    have g : gpg (pwr n zeros (setf 7 (rn ((gpg s n).take 4)) s)) = vput (vset (gpg s) 7 (rn ((gpg s n).take 4))) n zeros := by rw [gpg_pwr, gpg_set]
    have fv : ∀ j, vf (vput (vset (gpg s) 7 (rn ((gpg s n).take 4))) n zeros) j = if j = 7 then rn ((gpg s n).take 4) else vf (gpg s) j := fun j => by
      rw [vput_vf _ _ n0]; exact vset_vf xb.1 xb.2 hz7
    rw [List.cons_append, List.nodup_cons] at nd
    have dis : ∀ x ∈ r ++ t, x ≠ n := fun x hx' q => nd.1 (by rw [← q]; exact hx')
    have pm : (r ++ (n :: t)).Perm (n :: (r ++ t)) := List.perm_middle
    rw [e]
    refine ⟨rfl, ⟨fun x => ?_, ?_, ?_, ?_, fun x hx => ?_, fun x a b => ?_, ?_, ?_, ?_⟩, fun x hx => ?_⟩
    · rw [g]; unfold vput; split
      · exact zeros_len
      · unfold vset vput; split
        · rw [spl_len hz7]; exact h.z 0
        · exact h.z x
    · rw [g, fv, if_neg (by decide), h.many]; rfl
    · rw [g, fv, if_pos rfl]
      exact c.2.mono fun x hx => by
        have hx : x ∈ r := hx
        have m0 := (rg x (by simp [hx])).1
        show rn ((gpg s x).take 4) = rn ((vput (vset (gpg s) 7 (rn ((gpg s n).take 4))) n zeros x).take 4)
        rw [vput_ne _ _ (dis x (by simp [hx])), vset_ne _ _ _ (by omega)]
    · show (r ++ (n :: t)).Nodup
      exact pm.nodup_iff.mpr (List.nodup_cons.mpr nd)
    · exact rg x (pm.mem_iff.mp hx)
    · exact pm.mem_iff.mpr (h.fu x a b)
    · exact m1
    · show m ≤ _; omega
    · have := pwr_len (setf 7 (rn ((gpg s n).take 4)) s) n zeros; have := setf_len s 7 (rn ((gpg s n).take 4)); have := h.dl; show (pwr n zeros (setf 7 (rn ((gpg s n).take 4)) s)).dir.length ≤ _; omega
    · show gpg (pwr n zeros (setf 7 (rn ((gpg s n).take 4)) s)) x = _
      have := h.pos hx
      rw [g, vput_ne _ _ (dis x (by simp [hx])), vset_ne _ _ _ (by omega)]
theorem FR.rel {i : Nat} {s : PgS} {m : Int} {f t : List Int} {n : Int} (h : FR i s m f (n :: t)) (hi : i ≤ 400000) :
    FR (i + 1) (prel n s) m (n :: f) t ∧ ∀ x ∈ t, gpg (prel n s) x = gpg s x := by
  have m1 := h.m1; have mb := h.mb
  have hn := h.pos (n := n) (by simp)
  have n0 : n ≠ 0 := by omega
  have g : gpg (prel n s) = vset (vput (gpg s) n (wn 4 (vf (gpg s) 7) ++ List.replicate 252 0)) 7 n := by unfold prel; rw [gpg_set, gpg_pwr, fld_vf]
  have lw : (wn 4 (vf (gpg s) 7) ++ List.replicate 252 (0 : Int)).length = 256 := by rw [List.length_append, wn_len, List.length_replicate]
  have v0 : vput (gpg s) n (wn 4 (vf (gpg s) 7) ++ List.replicate 252 0) 0 = gpg s 0 := vput_ne _ _ n0.symm
  have hz : 4 * (7 + 1) ≤ (vput (gpg s) n (wn 4 (vf (gpg s) 7) ++ List.replicate 252 0) 0).length := by rw [v0, h.z]; decide
  have fv : ∀ j, vf (vset (vput (gpg s) n (wn 4 (vf (gpg s) 7) ++ List.replicate 252 0)) 7 n) j = if j = 7 then n else vf (gpg s) j := fun j => by
    rw [vset_vf (by omega) (by omega) hz, vput_vf _ _ n0]
  have x7 : 0 ≤ vf (gpg s) 7 ∧ vf (gpg s) 7 < 256 ^ 4 := by
    have c := h.chain.head
    rw [c]
    cases f with
    | nil => exact ⟨by decide, by decide⟩
    | cons y r => have := h.rg y (by simp); show 0 ≤ y ∧ y < 256 ^ 4; omega
  have pm : (f ++ (n :: t)).Perm (n :: (f ++ t)) := List.perm_middle
  have nd := pm.nodup_iff.mp h.nd
  have ni := (List.nodup_cons.mp nd).1
  refine ⟨⟨fun x => ?_, ?_, ?_, nd, fun x hx => h.rg x (pm.mem_iff.mpr hx), fun x a b => pm.mem_iff.mp (h.fu x a b), m1, by omega, ?_⟩, fun x hx => ?_⟩
  · rw [g]; unfold vset
    by_cases e : x = 0
    · subst e; rw [vput_eq, spl_len hz, v0]; exact h.z 0
    · rw [vput_ne _ _ e]; unfold vput; split
      · exact lw
      · exact h.z x
  · rw [g, fv]; exact h.many
  · rw [g, fv, if_pos rfl]
    refine ⟨rfl, ?_⟩
    have e : rn ((vset (vput (gpg s) n (wn 4 (vf (gpg s) 7) ++ List.replicate 252 0)) 7 n n).take 4) = vf (gpg s) 7 := by
      rw [vset_ne _ _ _ n0, vput_eq, List.take_left' (wn_len 4 _)]
      exact rn_wn 4 _ x7.1 x7.2
    show Chain _ (rn ((vset (vput (gpg s) n (wn 4 (vf (gpg s) 7) ++ List.replicate 252 0)) 7 n n).take 4)) f
    rw [e]
    exact h.chain.mono fun x hx => by
      have m0 := (h.rg x (List.mem_append.mpr (.inl hx))).1
      have mn : x ≠ n := fun z => ni (by rw [← z]; exact List.mem_append.mpr (.inl hx))
      show rn ((gpg s x).take 4) = rn ((vset (vput (gpg s) n (wn 4 (vf (gpg s) 7) ++ List.replicate 252 0)) 7 n x).take 4)
      rw [vset_ne _ _ _ (by omega), vput_ne _ _ mn]
  · have := setf_len (pwr n (wn 4 (fld s 7) ++ List.replicate 252 0) s) 7 n; have := pwr_len s n (wn 4 (fld s 7) ++ List.replicate 252 0); have := h.dl
    unfold prel; omega
  · have := h.pos (n := x) (by simp [hx])
    have mn : x ≠ n := fun z => ni (by rw [← z]; exact List.mem_append.mpr (.inr hx))
    rw [g, vset_ne _ _ _ (by omega), vput_ne _ _ mn]
/-! ### the order of pairs, in one number -/
def kp (a b : Int) : Int := a * 4294967296 + b
def ky (it : Itm) : Int := kp it.a it.b
def Rb (b : Int) : Prop := 0 ≤ b ∧ b < 4294967296
theorem pLt_kp {a b x y : Int} (h0 : Rb b) (h2 : Rb y) : pLt a b x y = decide (kp a b < kp x y) := by
  unfold pLt kp; unfold Rb at *; rw [decide_eq_decide]; omega
theorem pLe_kp {a b x y : Int} (h0 : Rb b) (h2 : Rb y) : pLe a b x y = decide (kp a b ≤ kp x y) := by
  unfold pLe kp; unfold Rb at *; rw [decide_eq_decide]; omega
theorem kp_eq {a b x y : Int} (h0 : Rb b) (h2 : Rb y) : kp a b = kp x y ↔ a = x ∧ b = y := by
  unfold kp; unfold Rb at *; omega
theorem ItOk.rb {D : Nat} {kd : Int} {it : Itm} (h : ItOk D kd it) : Rb it.b := ⟨h.b0, by have := h.b1; omega⟩
theorem ItOk.kr {D : Nat} {kd : Int} {it : Itm} (h : ItOk D kd it) : 0 ≤ ky it ∧ ky it < 18446744073709551616 := by
  have := h.a0; have := h.a1; have := h.b0; have := h.b1
  unfold ky kp; omega
/-! ### halves -/
theorem hcnt_len : ∀ (S : Nat) (sz : List Nat) (a : Nat), hcnt S sz a ≤ sz.length
  | _, [], _ => Nat.le_refl _
  | S, x :: r, a => by
    show (if 2 * (a + x) ≤ S then hcnt S r (a + x) + 1 else 0) ≤ r.length + 1
    have := hcnt_len S r (a + x)
    split <;> omega
theorem hcnt_sum : ∀ (S : Nat) (sz : List Nat) (a B : Nat), 2 * a ≤ S → S < 2 * (a + sz.sum) → (∀ x ∈ sz, x ≤ B) →
    2 * (a + (sz.take (hcnt S sz a)).sum) ≤ S ∧ hcnt S sz a < sz.length ∧ S < 2 * (a + (sz.take (hcnt S sz a)).sum + B)
  | S, [], a, B, h1, h2, _ => by simp only [List.sum_nil] at h2; omega
  | S, x :: r, a, B, h1, h2, h3 => by
    show 2 * (a + ((x :: r).take (if 2 * (a + x) ≤ S then hcnt S r (a + x) + 1 else 0)).sum) ≤ S ∧ (if 2 * (a + x) ≤ S then hcnt S r (a + x) + 1 else 0) < r.length + 1 ∧ S < 2 * (a + ((x :: r).take (if 2 * (a + x) ≤ S then hcnt S r (a + x) + 1 else 0)).sum + B)
    rw [List.sum_cons] at h2
    split
    · rename_i q
      have ih := hcnt_sum S r (a + x) B q (by omega) fun y hy => h3 y (List.mem_cons_of_mem _ hy)
      rw [List.take_succ_cons, List.sum_cons]
      omega
    · have := h3 x (by simp)
      rw [List.take_zero, List.sum_nil]
      omega
theorem isz_sum (its : List Itm) : (its.flatMap encI).length = (isz its).sum := by
  unfold isz
  rw [List.length_flatMap]
theorem encB_sz (kd : Int) (its : List Itm) : (encB kd its).length = 2 + (isz its).sum := by
  unfold encB; rw [List.length_cons, List.length_cons, isz_sum]; omega
theorem isz_take (its : List Itm) (k : Nat) : isz (its.take k) = (isz its).take k := by unfold isz; rw [List.map_take]
theorem isz_drop (its : List Itm) (k : Nat) : isz (its.drop k) = (isz its).drop k := by unfold isz; rw [List.map_drop]
def SmI (it : Itm) : Prop := (encI it).length ≤ 69
/-- two halves that fit, none of them empty -/
theorem halves_ok {kd : Int} {its : List Itm} (h1 : ∀ it ∈ its, SmI it) (h2 : 140 ≤ (isz its).sum) (h3 : (isz its).sum ≤ 323) :
    0 < hk its ∧ hk its < its.length ∧ (encB kd (its.take (hk its))).length ≤ 240 ∧ (encB kd (its.drop (hk its))).length ≤ 240 := by
  have b : ∀ x ∈ isz its, x ≤ 69 := fun x hx => by
    obtain ⟨it, hi, rfl⟩ := List.mem_map.mp hx
    exact h1 it hi
  have c := hcnt_sum (isz its).sum (isz its) 0 69 (by omega) (by omega) b
  have e : (isz its).length = its.length := List.length_map _
  have d : (isz its).sum = ((isz its).take (hk its)).sum + ((isz its).drop (hk its)).sum := by
    rw [← List.sum_append, List.take_append_drop]
  rw [encB_sz, encB_sz, isz_take, isz_drop]
  unfold hk at *
  rw [e] at c
  refine ⟨?_, c.2.1, by omega, by omega⟩
  rcases Nat.eq_zero_or_pos (hcnt (isz its).sum (isz its) 0) with z | z
  · rw [z, List.take_zero, List.sum_nil] at c; omega
  · exact z
/-! ### the child to which a pair belongs -/
theorem cplc_cnt {k b : Int} (hb : Rb b) : ∀ (cs : List Itm) (i m : Nat), (∀ c ∈ cs, Rb c.b) → cs.Pairwise (fun x y => ky x < ky y) →
    cplc k b cs i m = if (cs.filter fun c => pLe c.a c.b k b).length = 0 then m else i + (cs.filter fun c => pLe c.a c.b k b).length - 1
  | [], _, _, _, _ => rfl
  | c :: r, i, m, hr, hp => by
    have hc := hr c (by simp)
    have hr' : ∀ x ∈ r, Rb x.b := fun x hx => hr x (List.mem_cons_of_mem _ hx)
    rw [List.pairwise_cons] at hp
    have ih := cplc_cnt (k := k) hb r (i + 1) (if pLe c.a c.b k b = true then i else m) hr' hp.2
    show cplc k b r (i + 1) (if pLe c.a c.b k b = true then i else m) = _
    rw [ih]
    by_cases e : pLe c.a c.b k b = true
    · rw [if_pos e, List.filter_cons_of_pos (by simpa using e), List.length_cons, if_neg (Nat.succ_ne_zero _)]
      split <;> omega
    · have z : r.filter (fun c => pLe c.a c.b k b) = [] := by
        rw [List.filter_eq_nil_iff]
        intro x hx
        have := hp.1 x hx
        rw [pLe_kp hc hb] at e
        rw [pLe_kp (hr' x hx) hb]
        simp only [decide_eq_true_eq] at e ⊢
        unfold ky at this
        omega
      rw [if_neg e, List.filter_cons_of_neg (by simpa using e), z]
      rfl
/-! ### a potential: eight for each page, and what inner pages have beyond eleven children -/
def xw (ds : List Int) : Nat := if ds.getD 0 0 = 2 then (ds.getD 1 0).toNat - 11 else 0
def ew (kd : Int) (its : List Itm) : Nat := if kd = 2 then its.length - 11 else 0
theorem xw_enc (kd : Int) (its : List Itm) : xw (pad (encB kd its)) = ew kd its := by
  unfold xw ew pad encB
  show (if kd = 2 then ((its.length : Nat) : Int).toNat - 11 else 0) = _
  rw [Int.toNat_natCast]
theorem xw_zeros : xw zeros = 0 := rfl
theorem Dec.xw {D : Nat} {v : List Int} {kd : Int} {its : List Itm} (d : Dec D v kd its) : NV.xw v = ew kd its := by
  rcases d with ⟨rfl, _⟩ | ⟨rfl, rfl, rfl⟩
  · exact xw_enc kd its
  · rfl
def smN (g : Nat → Nat) : Nat → Nat
  | 0 => 0
  | n + 1 => smN g n + g n
theorem smN_congr {g g' : Nat → Nat} : ∀ (n : Nat), (∀ j, j < n → g' j = g j) → smN g' n = smN g n
  | 0, _ => rfl
  | n + 1, h => by
    show smN g' n + g' n = smN g n + g n
    rw [smN_congr n fun j hj => h j (by omega), h n (by omega)]
theorem smN_upd {g g' : Nat → Nat} {k : Nat} (h : ∀ j, j ≠ k → g' j = g j) : ∀ (n : Nat), k < n → smN g' n + g k = smN g n + g' k
  | 0, hk => absurd hk (Nat.not_lt_zero _)
  | n + 1, hk => by
    show smN g' n + g' n + g k = smN g n + g n + g' k
    by_cases e : k = n
    · subst e
      rw [smN_congr k fun j hj => h j (by omega)]
      omega
    · have := smN_upd h n (by omega)
      rw [h n (fun z => e z.symm)]
      omega
theorem smN_le {g g' : Nat → Nat} : ∀ (n : Nat), (∀ j, j < n → g' j ≤ g j) → smN g' n ≤ smN g n
  | 0, _ => Nat.le_refl _
  | n + 1, h => by
    show smN g' n + g' n ≤ smN g n + g n
    have := smN_le n fun j hj => h j (by omega)
    have := h n (by omega)
    omega
def pgw (s : PgS) (k : Nat) : Nat := xw (gpg s ((k : Int) + 1))
def Pot (s : PgS) : Nat := 8 * (vf (gpg s) 6).toNat + smN (pgw s) ((vf (gpg s) 6).toNat - 1)
theorem Pot.write {i : Nat} {s : PgS} {m : Int} {f t : List Int} (F : FR i s m f t) {n : Int} (hn : n ∈ t) (ds : List Int) : Pot (pwr n ds s) + xw (gpg s n) = Pot s + xw ds := by
  have hp := F.pos hn
  have e6 : vf (gpg (pwr n ds s)) 6 = m := by rw [gpg_pwr, vput_vf _ _ (by omega)]; exact F.many
  unfold Pot
  rw [e6, F.many]
  have h := smN_upd (g := pgw s) (g' := pgw (pwr n ds s)) (k := (n - 1).toNat) (fun j hj => by
    unfold pgw
    rw [gpg_ne s ds (by omega)]) (m.toNat - 1) (by omega)
  have z : (((n - 1).toNat : Nat) : Int) + 1 = n := by omega
  have z1 : pgw s (n - 1).toNat = xw (gpg s n) := by unfold pgw; rw [z]
  have z2 : pgw (pwr n ds s) (n - 1).toNat = xw ds := by unfold pgw; rw [z, gpg_eq]
  rw [z1, z2] at h
  omega
theorem pgw_set (s : PgS) (k : Nat) (x : Int) (j : Nat) : pgw (setf k x s) j = pgw s j := by
  unfold pgw
  rw [gpg_set, vset_ne _ _ _ (by omega)]
theorem Pot.alloc {i : Nat} {s : PgS} {m : Int} {f t : List Int} (F : FR i s m f t) (hi : i ≤ 400000) : Pot (palloc s).1 ≤ Pot s + 8 ∧ gpg (palloc s).1 (palloc s).2 = zeros := by
  obtain ⟨ea, A, _⟩ := F.alloc hi
  have em := A.many
  have m1 := F.m1
  have mm := F.many
  unfold Pot
  rw [em, mm]
  have ev : (palloc s) = (pwr (fld s 6) zeros (setf 6 (fld s 6 + 1) s), fld s 6) ∧ f = [] ∨ (palloc s) = (pwr (fld s 7) zeros (setf 7 (rn ((gpg s (fld s 7)).take 4)) s), fld s 7) ∧ f ≠ [] := by
    have c := F.chain
    unfold palloc
    cases f with
    | nil =>
      have c : vf (gpg s) 7 = 0 := c
      rw [if_pos (by rw [fld_vf]; exact c)]
      exact .inl ⟨rfl, rfl⟩
    | cons n r =>
      have n0 := (F.rg n (by simp)).1
      have c1 : vf (gpg s) 7 = n := c.1
      rw [if_neg (by rw [fld_vf, c1]; omega)]
      exact .inr ⟨rfl, by simp⟩
  rcases ev with ⟨e, rfl⟩ | ⟨e, ne⟩
  · rw [e]
    refine ⟨?_, gpg_eq _ _ _⟩
    have em2 : alM m [] = m + 1 := rfl
    rw [em2, fld_vf, mm, show (m + 1).toNat - 1 = (m.toNat - 1) + 1 by omega]
    have h := smN_congr (g := pgw s) (g' := pgw (pwr m zeros (setf 6 (m + 1) s))) (m.toNat - 1) (fun j hj => by
      rw [← pgw_set s 6 (m + 1)]
      unfold pgw
      rw [gpg_ne _ _ (by omega)])
    have h2 : pgw (pwr m zeros (setf 6 (m + 1) s)) (m.toNat - 1) = 0 := by
      unfold pgw
      rw [show (((m.toNat - 1 : Nat) : Int) + 1) = m by omega, gpg_eq]; rfl
    show 8 * (m + 1).toNat + (smN (pgw (pwr m zeros (setf 6 (m + 1) s))) (m.toNat - 1) + pgw (pwr m zeros (setf 6 (m + 1) s)) (m.toNat - 1)) ≤ _
    rw [h, h2]
    omega
  · rw [e]
    refine ⟨?_, gpg_eq _ _ _⟩
    have em2 : alM m f = m := if_neg ne
    rw [em2]
    have h := smN_le (g := pgw s) (g' := pgw (pwr (fld s 7) zeros (setf 7 (rn ((gpg s (fld s 7)).take 4)) s))) (m.toNat - 1) (fun j hj => by
      unfold pgw
      by_cases q : ((j : Int) + 1) = fld s 7
      · rw [q, gpg_eq, xw_zeros]; omega
      · rw [gpg_ne _ _ q]
        have := pgw_set s 7 (rn ((gpg s (fld s 7)).take 4)) j
        unfold pgw at this
        rw [this]; exact Nat.le_refl _)
    show 8 * m.toNat + smN (pgw (pwr (fld s 7) zeros (setf 7 (rn ((gpg s (fld s 7)).take 4)) s))) (m.toNat - 1) ≤ _
    omega
theorem Pot.aput {i : Nat} {s : PgS} {m : Int} {f t : List Int} (F : FR i s m f t) (hi : i ≤ 400000) (ds : List Int) : Pot (pwr (palloc s).2 ds (palloc s).1) ≤ Pot s + 8 + xw ds := by
  obtain ⟨ea, A, _⟩ := F.alloc hi
  obtain ⟨h1, h2⟩ := Pot.alloc F hi
  have h := Pot.write A (n := (palloc s).2) (by rw [ea]; simp) ds
  rw [h2, xw_zeros] at h
  omega
theorem Pot.rel {i : Nat} {s : PgS} {m : Int} {f t : List Int} {n : Int} (F : FR i s m f (n :: t)) (hi : i ≤ 400000) : Pot (prel n s) + xw (gpg s n) ≤ Pot s := by
  have h := Pot.write F (n := n) (by simp) (wn 4 (fld s 7) ++ List.replicate 252 0)
  have hn := F.pos (n := n) (by simp)
  have mb := F.mb
  have x7 : 0 ≤ fld s 7 ∧ fld s 7 < 16777216 := by
    rw [fld_vf, F.chain.head]
    cases f with
    | nil => exact ⟨by decide, by decide⟩
    | cons y r =>
      have := F.rg y (by simp)
      show 0 ≤ y ∧ y < 16777216
      omega
  have x0 : xw (wn 4 (fld s 7) ++ List.replicate 252 0) = 0 := by
    have e0 : (wn 4 (fld s 7) ++ List.replicate 252 (0 : Int)).getD 0 0 = (wn 4 (fld s 7)).getD 0 0 := by
      rw [List.getD_eq_getElem?_getD, List.getD_eq_getElem?_getD, List.getElem?_append_left (by rw [wn_len]; decide)]
    have e1 : (wn 4 (fld s 7)).getD 0 0 = fld s 7 / 16777216 % 256 := by
      rw [List.getD_eq_getElem?_getD, wn_get (by decide)]; rfl
    unfold xw
    rw [e0, e1, if_neg (by omega)]
  have e6 : Pot (prel n s) = Pot (pwr n (wn 4 (fld s 7) ++ List.replicate 252 0) s) := by
    have hz : 4 * (7 + 1) ≤ (vput (gpg s) n (wn 4 (vf (gpg s) 7) ++ List.replicate 252 0) 0).length := by rw [vput_ne _ _ (by omega), F.z]; decide
    have e : vf (gpg (prel n s)) 6 = vf (gpg (pwr n (wn 4 (fld s 7) ++ List.replicate 252 0) s)) 6 := by
      unfold prel
      rw [gpg_set, gpg_pwr, fld_vf, vset_vf (by omega) (by omega) hz, if_neg (by decide)]
    unfold Pot
    rw [e]
    congr 1
    exact smN_congr _ fun j _ => pgw_set _ 7 n j
  omega
theorem FR.len {i : Nat} {s : PgS} {m : Int} {f t : List Int} (F : FR i s m f t) : (f ++ t).length = (m - 1).toNat := by
  have m1 := F.m1
  have nd2 : ((List.range (m - 1).toNat).map fun i => 1 + ((i : Nat) : Int)).Nodup := by
    unfold List.Nodup
    rw [List.pairwise_map]
    exact List.nodup_range.imp fun h => by omega
  have p : (f ++ t).Perm ((List.range (m - 1).toNat).map fun i => 1 + ((i : Nat) : Int)) := (List.perm_ext_iff_of_nodup F.nd nd2).mpr fun x => ⟨fun hx => by
    have := F.rg x hx
    exact List.mem_map.mpr ⟨(x - 1).toNat, List.mem_range.mpr (by omega), by omega⟩, fun hx => by
    obtain ⟨j, hj, rfl⟩ := List.mem_map.mp hx
    have := List.mem_range.mp hj
    exact F.fu _ (by omega) (by omega)⟩
  rw [p.length_eq, List.length_map, List.length_range]
/-! ### a key tree over its pages -/
def nxk (hi : Int) : List Itm → Int
  | [] => hi
  | c :: _ => ky c
abbrev KR := Int → Int → Int → List Int → List Itm → Prop
def Seg (R : KR) : Int → List Itm → Int → List Int → List Itm → Prop
  | _, [], _, ps, es => ps = [] ∧ es = []
  | lo, c :: cs, hi, ps, es => ∃ p1 p2 e1 e2, ps = p1 ++ p2 ∧ es = e1 ++ e2 ∧ e1 ≠ [] ∧ R c.c lo (nxk hi cs) p1 e1 ∧ Seg R (nxk hi cs) cs hi p2 e2
/-- a page that holds what C says -/
def PgR (D : Nat) (v : Int → List Int) (C : Int → List Itm → Int → Int → List Int → List Itm → Prop) : KR :=
  fun n lo hi ps es => ∃ kd its ps', ps = n :: ps' ∧ Dec D (v n) kd its ∧ ¬ tooL kd its ∧ C kd its lo hi ps' es
/-- what the items of a page of height h stand for -/
def KTc (D : Nat) (v : Int → List Int) : Nat → Int → List Itm → Int → Int → List Int → List Itm → Prop
  | 0, kd, its, lo, hi, ps, es => kd = 1 ∧ ps = [] ∧ es = its ∧ its.Pairwise (fun x y => ky x < ky y) ∧ ∀ e ∈ its, lo ≤ ky e ∧ ky e < hi
  | h + 1, kd, its, lo, hi, ps, es => kd = 2 ∧ its ≠ [] ∧ Seg (PgR D v (KTc D v h)) lo its hi ps es
def KT (D : Nat) (v : Int → List Int) (h : Nat) : KR := PgR D v (KTc D v h)
structure Ent (D : Nat) (lo hi : Int) (es : List Itm) : Prop where
  p : es.Pairwise fun x y => ky x < ky y
  b : ∀ e ∈ es, lo ≤ ky e ∧ ky e < hi
  k : ∀ e ∈ es, ItOk D 1 e
theorem nxk_app (hi : Int) (l r : List Itm) : nxk hi (l ++ r) = nxk (nxk hi r) l := by cases l <;> rfl
theorem Seg.ne {R : KR} {lo hi : Int} {cs : List Itm} {ps : List Int} {es : List Itm} (h : Seg R lo cs hi ps es) (n : cs ≠ []) : es ≠ [] := by
  cases cs with
  | nil => exact absurd rfl n
  | cons c cs =>
    obtain ⟨p1, p2, e1, e2, _, rfl, ne, _⟩ := h
    exact fun z => ne (List.append_eq_nil_iff.mp z).1
theorem Seg.ent {D : Nat} {R : KR} (hR : ∀ n lo hi ps es, R n lo hi ps es → Ent D lo hi es) : ∀ {cs : List Itm} {lo hi : Int} {ps : List Int} {es : List Itm}, Seg R lo cs hi ps es → Ent D lo hi es
  | [], _, _, _, _, h => by
    obtain ⟨_, rfl⟩ := h
    exact ⟨.nil, fun e z => by simp at z, fun e z => by simp at z⟩
  | c :: cs, lo, hi, ps, es, h => by
    obtain ⟨p1, p2, e1, e2, _, rfl, ne, r, s⟩ := h
    have a := hR _ _ _ _ _ r
    have b := Seg.ent hR s
    obtain ⟨x, hx⟩ := List.exists_mem_of_ne_nil _ ne
    have bx := a.b x hx
    have up : nxk hi cs ≤ hi := by
      cases cs with
      | nil => exact Int.le_refl _
      | cons c' cs =>
        obtain ⟨y, hy⟩ := List.exists_mem_of_ne_nil _ (s.ne (by simp))
        have := b.b y hy
        omega
    refine ⟨List.pairwise_append.mpr ⟨a.p, b.p, fun x hx y hy => ?_⟩, fun e he => ?_, fun e he => ?_⟩
    · have := a.b x hx; have := b.b y hy; omega
    · rcases List.mem_append.mp he with q | q
      · have := a.b e q; omega
      · have := b.b e q; omega
    · rcases List.mem_append.mp he with q | q
      · exact a.k e q
      · exact b.k e q
theorem KTc.ent {D : Nat} {v : Int → List Int} : ∀ {h : Nat} {kd : Int} {its : List Itm} {lo hi : Int} {ps : List Int} {es : List Itm}, KTc D v h kd its lo hi ps es → (∀ it ∈ its, ItOk D kd it) → Ent D lo hi es
  | 0, _, _, _, _, _, _, h, k => by
    obtain ⟨rfl, _, rfl, p, b⟩ := h
    exact ⟨p, b, k⟩
  | h + 1, _, _, _, _, _, _, hh, _ => by
    obtain ⟨_, _, s⟩ := hh
    exact Seg.ent (fun n lo hi ps es r => by
      obtain ⟨kd, its, ps', _, d, _, c⟩ := r
      exact KTc.ent c d.ok) s
theorem KT.ent {D : Nat} {v : Int → List Int} {h : Nat} {n lo hi : Int} {ps : List Int} {es : List Itm} (r : KT D v h n lo hi ps es) : Ent D lo hi es := by
  obtain ⟨kd, its, ps', _, d, _, c⟩ := r
  exact KTc.ent c d.ok
theorem Seg.lt {D : Nat} {R : KR} (hR : ∀ n lo hi ps es, R n lo hi ps es → Ent D lo hi es) {cs : List Itm} {lo hi : Int} {ps : List Int} {es : List Itm} (h : Seg R lo cs hi ps es) (n : cs ≠ []) : lo < hi := by
  obtain ⟨x, hx⟩ := List.exists_mem_of_ne_nil _ (h.ne n)
  have := (h.ent hR).b x hx
  omega
theorem Seg.keys {D : Nat} {R : KR} (hR : ∀ n lo hi ps es, R n lo hi ps es → Ent D lo hi es) : ∀ {cs : List Itm} {c : Itm} {lo hi : Int} {ps : List Int} {es : List Itm}, Seg R lo (c :: cs) hi ps es → cs.Pairwise (fun x y => ky x < ky y) ∧ ∀ x ∈ cs, lo < ky x ∧ ky x < hi
  | [], _, _, _, _, _, _ => ⟨.nil, fun x z => by simp at z⟩
  | c' :: cs, c, lo, hi, ps, es, h => by
    obtain ⟨p1, p2, e1, e2, _, rfl, ne, r, s⟩ := h
    have ih := Seg.keys hR s
    have l1 := s.lt hR (by simp)
    obtain ⟨x, hx⟩ := List.exists_mem_of_ne_nil _ ne
    have bx := (hR _ _ _ _ _ r).b x hx
    have bx : lo ≤ ky x ∧ ky x < ky c' := bx
    have l1 : ky c' < hi := l1
    have ih2 : ∀ x ∈ cs, ky c' < ky x ∧ ky x < hi := ih.2
    refine ⟨List.pairwise_cons.mpr ⟨fun y hy => (ih2 y hy).1, ih.1⟩, fun y hy => ?_⟩
    rcases List.mem_cons.mp hy with rfl | hy
    · omega
    · have := ih2 y hy; omega
theorem Seg.split {R : KR} : ∀ {l r : List Itm} {lo hi : Int} {ps : List Int} {es : List Itm}, Seg R lo (l ++ r) hi ps es → ∃ p1 p2 e1 e2, ps = p1 ++ p2 ∧ es = e1 ++ e2 ∧ Seg R lo l (nxk hi r) p1 e1 ∧ Seg R (if l = [] then lo else nxk hi r) r hi p2 e2
  | [], r, lo, hi, ps, es, h => ⟨[], ps, [], es, rfl, rfl, ⟨rfl, rfl⟩, by rw [if_pos rfl]; exact h⟩
  | c :: l, r, lo, hi, ps, es, h => by
    obtain ⟨p1, p2, e1, e2, rfl, rfl, ne, q, s⟩ := h
    obtain ⟨q1, q2, f1, f2, rfl, rfl, s1, s2⟩ := Seg.split s
    have e : nxk hi (l ++ r) = nxk (nxk hi r) l := nxk_app _ _ _
    refine ⟨p1 ++ q1, q2, e1 ++ f1, f2, (List.append_assoc _ _ _).symm, (List.append_assoc _ _ _).symm, ⟨p1, q1, e1, f1, rfl, rfl, ne, by rw [← e]; exact q, by rw [← e]; exact s1⟩, ?_⟩
    rw [if_neg (by simp)]
    have z : (if l = [] then nxk hi (l ++ r) else nxk hi r) = nxk hi r := by
      split
      · rename_i g; rw [g]; rfl
      · rfl
    have s2 : Seg R (if l = [] then nxk hi (l ++ r) else nxk hi r) r hi q2 f2 := s2
    rw [z] at s2
    exact s2
theorem Seg.join {R : KR} : ∀ {l r : List Itm} {lo hi : Int} {p1 p2 : List Int} {e1 e2 : List Itm}, Seg R lo l (nxk hi r) p1 e1 → Seg R (if l = [] then lo else nxk hi r) r hi p2 e2 → Seg R lo (l ++ r) hi (p1 ++ p2) (e1 ++ e2)
  | [], r, lo, hi, _, _, _, _, h, g => by
    obtain ⟨rfl, rfl⟩ := h
    rw [if_pos rfl] at g
    exact g
  | c :: l, r, lo, hi, _, p2, _, e2, h, g => by
    obtain ⟨q1, q2, f1, f2, rfl, rfl, ne, q, s⟩ := h
    have e : nxk hi (l.append r) = nxk (nxk hi r) l := nxk_app _ _ _
    rw [if_neg (by simp)] at g
    refine ⟨q1, q2 ++ p2, f1, f2 ++ e2, List.append_assoc _ _ _, List.append_assoc _ _ _, ne, by rw [e]; exact q, ?_⟩
    refine Seg.join (by rw [e]; exact s) ?_
    have z : (if l = [] then nxk hi (l.append r) else nxk hi r) = nxk hi r := by
      split
      · rename_i g; rw [g]; rfl
      · rfl
    rw [z]
    exact g
theorem Seg.map {R R' : KR} : ∀ {cs : List Itm} {lo hi : Int} {ps : List Int} {es : List Itm}, (∀ n lo hi p e, (∀ x ∈ p, x ∈ ps) → R n lo hi p e → R' n lo hi p e) → Seg R lo cs hi ps es → Seg R' lo cs hi ps es
  | [], _, _, _, _, _, h => h
  | c :: cs, _, _, _, _, k, h => by
    obtain ⟨p1, p2, e1, e2, rfl, rfl, ne, q, s⟩ := h
    exact ⟨p1, p2, e1, e2, rfl, rfl, ne, k _ _ _ _ _ (fun x hx => List.mem_append.mpr (.inl hx)) q, s.map fun n lo hi p e hp => k n lo hi p e fun x hx => List.mem_append.mpr (.inr (hp x hx))⟩
theorem KTc.congr {D : Nat} {v v' : Int → List Int} : ∀ {h : Nat} {kd : Int} {its : List Itm} {lo hi : Int} {ps : List Int} {es : List Itm}, (∀ x ∈ ps, v' x = v x) → KTc D v h kd its lo hi ps es → KTc D v' h kd its lo hi ps es
  | 0, _, _, _, _, _, _, _, h => h
  | h + 1, _, _, _, _, ps, _, e, hh => by
    obtain ⟨k, n, s⟩ := hh
    refine ⟨k, n, s.map fun n lo hi p es hp r => ?_⟩
    obtain ⟨kd, its, ps', rfl, d, t, c⟩ := r
    exact ⟨kd, its, ps', rfl, by rw [e n (hp n (by simp))]; exact d, t, KTc.congr (fun x hx => e x (hp x (by simp [hx]))) c⟩
theorem KT.congr {D : Nat} {v v' : Int → List Int} {h : Nat} {n lo hi : Int} {ps : List Int} {es : List Itm} (e : ∀ x ∈ ps, v' x = v x) (r : KT D v h n lo hi ps es) : KT D v' h n lo hi ps es := by
  obtain ⟨kd, its, ps', rfl, d, t, c⟩ := r
  exact ⟨kd, its, ps', rfl, by rw [e n (by simp)]; exact d, t, KTc.congr (fun x hx => e x (by simp [hx])) c⟩
theorem Seg.wid {R : KR} (hR : ∀ n lo hi lo' hi' ps es, lo' ≤ lo → hi ≤ hi' → R n lo hi ps es → R n lo' hi' ps es) : ∀ {cs : List Itm} {lo hi lo' hi' : Int} {ps : List Int} {es : List Itm}, lo' ≤ lo → hi ≤ hi' → Seg R lo cs hi ps es → Seg R lo' cs hi' ps es
  | [], _, _, _, _, _, _, _, _, h => h
  | [c], _, _, _, _, _, _, a, b, h => by
    obtain ⟨p1, p2, e1, e2, rfl, rfl, ne, q, s⟩ := h
    exact ⟨p1, p2, e1, e2, rfl, rfl, ne, hR _ _ _ _ _ _ _ a b q, s⟩
  | c :: c' :: cs, _, _, _, _, _, _, a, b, h => by
    obtain ⟨p1, p2, e1, e2, rfl, rfl, ne, q, s⟩ := h
    exact ⟨p1, p2, e1, e2, rfl, rfl, ne, hR _ _ _ _ _ _ _ a (Int.le_refl _) q, Seg.wid hR (Int.le_refl _) b s⟩
theorem KTc.wid {D : Nat} {v : Int → List Int} : ∀ {h : Nat} {kd : Int} {its : List Itm} {lo hi lo' hi' : Int} {ps : List Int} {es : List Itm}, lo' ≤ lo → hi ≤ hi' → KTc D v h kd its lo hi ps es → KTc D v h kd its lo' hi' ps es
  | 0, _, _, _, _, _, _, _, _, a, b, h => by
    obtain ⟨rfl, rfl, rfl, p, q⟩ := h
    exact ⟨rfl, rfl, rfl, p, fun e he => by have := q e he; omega⟩
  | h + 1, _, _, _, _, _, _, ps, _, a, b, hh => by
    obtain ⟨k, n, s⟩ := hh
    refine ⟨k, n, Seg.wid (fun n lo hi lo' hi' ps es a b r => ?_) a b s⟩
    obtain ⟨kd, its, ps', rfl, d, t, c⟩ := r
    exact ⟨kd, its, ps', rfl, d, t, KTc.wid a b c⟩
theorem KT.wid {D : Nat} {v : Int → List Int} {h : Nat} {n lo hi lo' hi' : Int} {ps : List Int} {es : List Itm} (a : lo' ≤ lo) (b : hi ≤ hi') (r : KT D v h n lo hi ps es) : KT D v h n lo' hi' ps es := by
  obtain ⟨kd, its, ps', rfl, d, t, c⟩ := r
  exact ⟨kd, its, ps', rfl, d, t, KTc.wid a b c⟩
/-! ### an ascending list, cut at a key -/
theorem cut_le {k b : Int} (hb : Rb b) : ∀ {cs : List Itm}, (∀ c ∈ cs, Rb c.b) → cs.Pairwise (fun x y => ky x < ky y) → ∃ l r, cs = l ++ r ∧ l = cs.filter (fun c => pLe c.a c.b k b) ∧ (∀ x ∈ l, ky x ≤ kp k b) ∧ ∀ x ∈ r, kp k b < ky x
  | [], _, _ => ⟨[], [], rfl, rfl, fun x z => by simp at z, fun x z => by simp at z⟩
  | c :: cs, hr, hp => by
    have hc := hr c (by simp)
    have hr' : ∀ x ∈ cs, Rb x.b := fun x hx => hr x (List.mem_cons_of_mem _ hx)
    rw [List.pairwise_cons] at hp
    obtain ⟨l, r, e, f, a, d⟩ := cut_le (k := k) hb hr' hp.2
    by_cases q : ky c ≤ kp k b
    · refine ⟨c :: l, r, by rw [e]; rfl, ?_, fun x hx => ?_, d⟩
      · rw [List.filter_cons_of_pos (by rw [pLe_kp hc hb]; exact decide_eq_true q), ← f]
      · rcases List.mem_cons.mp hx with rfl | hx
        · exact q
        · exact a x hx
    · refine ⟨[], c :: cs, rfl, ?_, fun x z => by simp at z, fun x hx => ?_⟩
      · symm
        rw [List.filter_eq_nil_iff]
        intro x hx
        rw [pLe_kp (hr x hx) hb]
        simp only [decide_eq_true_eq]
        rcases List.mem_cons.mp hx with rfl | hx
        · exact q
        · have := hp.1 x hx; unfold ky at *; omega
      · rcases List.mem_cons.mp hx with rfl | hx
        · omega
        · have := hp.1 x hx; omega
theorem ins_at {it : Itm} {a b : List Itm} (hi : Rb it.b) (ha : ∀ x ∈ a, Rb x.b ∧ ky x < ky it) (hb : ∀ x ∈ b, Rb x.b ∧ ky it ≤ ky x) : insI it (a ++ b) = a ++ [it] ++ b := by
  have e : (a ++ b).filter (fun x => pLt x.a x.b it.a it.b) = a := by
    rw [List.filter_append, List.filter_eq_self.mpr fun x hx => by rw [pLt_kp (ha x hx).1 hi]; exact decide_eq_true (ha x hx).2, List.filter_eq_nil_iff.mpr fun x hx => by rw [pLt_kp (hb x hx).1 hi]; have := (hb x hx).2; unfold ky at this; simp only [decide_eq_true_eq]; omega, List.append_nil]
  unfold insI
  rw [e, List.take_left, List.drop_left]
/-- the cut of an ascending list without the key -/
theorem ins_cut {it : Itm} (hi : Rb it.b) {es : List Itm} (hr : ∀ c ∈ es, Rb c.b) (hp : es.Pairwise (fun x y => ky x < ky y)) (hn : ∀ x ∈ es, ky x ≠ ky it) : ∃ a b, es = a ++ b ∧ insI it es = a ++ [it] ++ b ∧ (∀ x ∈ a, ky x < ky it) ∧ ∀ x ∈ b, ky it < ky x := by
  obtain ⟨l, r, e, _, h1, h2⟩ := cut_le (k := it.a) hi hr hp
  have h1' : ∀ x ∈ l, ky x < ky it := fun x hx => by
    have := h1 x hx; have := hn x (by rw [e]; simp [hx]); unfold ky at *; omega
  refine ⟨l, r, e, ?_, h1', h2⟩
  rw [e]
  exact ins_at hi (fun x hx => ⟨hr x (by rw [e]; simp [hx]), h1' x hx⟩) fun x hx => ⟨hr x (by rw [e]; simp [hx]), Int.le_of_lt (h2 x hx)⟩
theorem ins_mid {it : Itm} (hi : Rb it.b) {e1 e e2 : List Itm} (hr : ∀ c ∈ e, Rb c.b) (hp : e.Pairwise (fun x y => ky x < ky y)) (hn : ∀ x ∈ e, ky x ≠ ky it) (h1 : ∀ x ∈ e1, Rb x.b ∧ ky x < ky it) (h2 : ∀ x ∈ e2, Rb x.b ∧ ky it < ky x) : insI it (e1 ++ (e ++ e2)) = e1 ++ (insI it e ++ e2) := by
  obtain ⟨a, b, rfl, e3, h3, h4⟩ := ins_cut hi hr hp hn
  rw [e3, show e1 ++ (a ++ b ++ e2) = (e1 ++ a) ++ (b ++ e2) by simp only [List.append_assoc], ins_at hi]
  · simp only [List.append_assoc]
  · intro x hx
    rcases List.mem_append.mp hx with q | q
    · exact h1 x q
    · exact ⟨hr x (by simp [q]), h3 x q⟩
  · intro x hx
    rcases List.mem_append.mp hx with q | q
    · exact ⟨hr x (by simp [q]), Int.le_of_lt (h4 x q)⟩
    · exact ⟨(h2 x q).1, Int.le_of_lt (h2 x q).2⟩
theorem ins_perm (it : Itm) (es : List Itm) : (insI it es).Perm (it :: es) := by
  unfold insI
  have h := List.perm_middle (a := it) (l₁ := es.take (es.filter fun x => pLt x.a x.b it.a it.b).length) (l₂ := es.drop (es.filter fun x => pLt x.a x.b it.a it.b).length)
  rw [List.take_append_drop] at h
  rw [List.append_assoc]
  exact h
theorem ins_asc {it : Itm} (hi : Rb it.b) {es : List Itm} (hr : ∀ c ∈ es, Rb c.b) (hp : es.Pairwise (fun x y => ky x < ky y)) (hn : ∀ x ∈ es, ky x ≠ ky it) : (insI it es).Pairwise (fun x y => ky x < ky y) := by
  obtain ⟨a, b, rfl, e3, h3, h4⟩ := ins_cut hi hr hp hn
  rw [e3, List.append_assoc]
  rw [List.pairwise_append] at hp ⊢
  refine ⟨hp.1, List.pairwise_cons.mpr ⟨h4, hp.2.1⟩, fun x hx y hy => ?_⟩
  rcases List.mem_cons.mp hy with rfl | hy
  · exact h3 x hx
  · exact hp.2.2 x hx y hy
/-- the child to which a key belongs -/
theorem Seg.find {D : Nat} {R : KR} (hR : ∀ n lo hi ps es, R n lo hi ps es → Ent D lo hi es) {cs : List Itm} {lo hi : Int} {ps : List Int} {es : List Itm} {k b : Int} (s : Seg R lo cs hi ps es) (n : cs ≠ []) (hr : ∀ c ∈ cs, Rb c.b) (hb : Rb b) (h2 : kp k b < hi) :
    ∃ l c r, cs = l ++ c :: r ∧ cpl cs k b = l.length ∧ (l ≠ [] → ky c ≤ kp k b) ∧ kp k b < nxk hi r ∧ (cs.tail.filter fun c => pLe c.a c.b k b).length = l.length := by
  cases cs with
  | nil => exact absurd rfl n
  | cons c0 cs =>
    have ks := s.keys hR
    have hr' : ∀ c ∈ cs, Rb c.b := fun c hc => hr c (List.mem_cons_of_mem _ hc)
    obtain ⟨l, r, e, f, a, d⟩ := cut_le (k := k) hb hr' ks.1
    have ec : cpl (c0 :: cs) k b = l.length := by
      show cplc k b cs 1 (if pLe c0.a c0.b k b = true then 0 else 0) = _
      rw [show (if pLe c0.a c0.b k b = true then 0 else 0) = 0 by split <;> rfl, cplc_cnt hb cs 1 0 hr' ks.1, ← f]
      split <;> omega
    have nx : kp k b < nxk hi r := by
      cases r with
      | nil => exact h2
      | cons x r => exact d x (by simp)
    have tf : ((c0 :: cs).tail.filter fun c => pLe c.a c.b k b).length = l.length := by rw [f]; rfl
    rcases List.eq_nil_or_concat l with el | ⟨l', c, el⟩
    · subst el
      exact ⟨[], c0, r, by rw [e]; rfl, ec, fun z => absurd rfl z, nx, tf⟩
    · rw [List.concat_eq_append] at el
      refine ⟨c0 :: l', c, r, by rw [e, el]; simp, by rw [ec, el]; simp, fun _ => a c (by rw [el]; simp), nx, by rw [tf, el]; simp⟩
/-! ### an insertion -/
theorem ItOk.in12 {D : Nat} {it : Itm} (h : ItOk D 2 it) : (encI it).length = 12 := by
  rw [encI_len]
  rcases h.k with ⟨e, _⟩ | ⟨_, e⟩
  · exact absurd e (by decide)
  · rw [e]; rfl
theorem isz_in {D : Nat} : ∀ {its : List Itm}, (∀ it ∈ its, ItOk D 2 it) → (isz its).sum = 12 * its.length
  | [], _ => rfl
  | it :: its, h => by
    have := isz_in (its := its) fun x hx => h x (List.mem_cons_of_mem _ hx)
    show (encI it).length + (isz its).sum = 12 * (its.length + 1)
    rw [(h it (by simp)).in12, this]; omega
theorem isz_ge : ∀ {its : List Itm}, 12 * its.length ≤ (isz its).sum
  | [] => Nat.le_refl _
  | it :: its => by
    have := isz_ge (its := its)
    have e := encI_len it
    show 12 * (its.length + 1) ≤ (encI it).length + (isz its).sum
    omega
theorem KTc.kk {D : Nat} {v : Int → List Int} {h : Nat} {kd : Int} {its : List Itm} {lo hi : Int} {ps : List Int} {es : List Itm} (c : KTc D v h kd its lo hi ps es) : kd = 1 ∨ kd = 2 := by
  cases h with
  | zero => exact .inl c.1
  | succ h => exact .inr c.1
theorem fits_of {D : Nat} {kd : Int} {its : List Itm} (kk : kd = 1 ∨ kd = 2) (ok : ∀ it ∈ its, ItOk D kd it) (nt : ¬ tooL kd its) : (encB kd its).length ≤ 256 := by
  unfold tooL at nt
  rcases kk with rfl | rfl
  · rw [if_neg (by decide)] at nt; omega
  · rw [if_pos rfl] at nt; rw [encB_sz, isz_in ok]; omega
theorem KTc.put {D i h : Nat} {s : PgS} {m n : Int} {f t : List Int} {kd : Int} {its : List Itm} {lo hi : Int} {ps : List Int} {es : List Itm} (F : FR i s m f t) (hn : n ∈ t) (hnp : n ∉ ps) (c : KTc D (gpg s) h kd its lo hi ps es) (ok : ∀ it ∈ its, ItOk D kd it) (nt : ¬ tooL kd its) :
    (encB kd its).length ≤ 256 ∧ FR (i + 1) (pwr n (pad (encB kd its)) s) m f t ∧ KT D (gpg (pwr n (pad (encB kd its)) s)) h n lo hi (n :: ps) es ∧ ∀ x, x ≠ n → gpg (pwr n (pad (encB kd its)) s) x = gpg s x := by
  have ft := fits_of c.kk ok nt
  refine ⟨ft, F.write hn (pad_len ft), ⟨kd, its, ps, rfl, ?_, nt, ?_⟩, fun x hx => gpg_ne s _ hx⟩
  · rw [gpg_eq]; exact .inl ⟨rfl, c.kk, ok, ft⟩
  · exact c.congr fun x hx => gpg_ne s _ fun e => hnp (by rw [← e]; exact hx)
theorem KTc.aput {D i h : Nat} {s : PgS} {m : Int} {f t : List Int} {kd : Int} {its : List Itm} {lo hi : Int} {ps : List Int} {es : List Itm} (F : FR i s m f t) (hi' : i ≤ 400000) (hps : ∀ x ∈ ps, x ∈ t) (c : KTc D (gpg s) h kd its lo hi ps es) (ok : ∀ it ∈ its, ItOk D kd it) (nt : ¬ tooL kd its) :
    FR (i + 2) (pwr (palloc s).2 (pad (encB kd its)) (palloc s).1) (alM m f) f.tail ((palloc s).2 :: t) ∧ KT D (gpg (pwr (palloc s).2 (pad (encB kd its)) (palloc s).1)) h (palloc s).2 lo hi ((palloc s).2 :: ps) es ∧ (∀ x ∈ t, gpg (pwr (palloc s).2 (pad (encB kd its)) (palloc s).1) x = gpg s x) := by
  obtain ⟨e, A, sm⟩ := F.alloc hi'
  rw [← e] at A
  have ni := (List.nodup_cons.mp A.ndt).1
  have c' := c.congr (v' := gpg (palloc s).1) fun x hx => sm x (hps x hx)
  obtain ⟨_, W, k, o⟩ := c'.put A (n := (palloc s).2) (by simp) (fun z => ni (hps _ z)) ok nt
  exact ⟨W, k, fun x hx => by rw [o x fun e => ni (by rw [← e]; exact hx)]; exact sm x hx⟩
theorem KTc.cut {D : Nat} {v : Int → List Int} {h : Nat} {kd : Int} {l r : List Itm} {g : Itm} {lo hi : Int} {ps : List Int} {es : List Itm} (c : KTc D v h kd (l ++ g :: r) lo hi ps es) (n : l ≠ []) :
    ∃ p1 p2 e1 e2, ps = p1 ++ p2 ∧ es = e1 ++ e2 ∧ e1 ≠ [] ∧ e2 ≠ [] ∧ KTc D v h kd l lo (ky g) p1 e1 ∧ KTc D v h kd (g :: r) (ky g) hi p2 e2 := by
  cases h with
  | zero =>
    obtain ⟨rfl, rfl, rfl, p, b⟩ := c
    rw [List.pairwise_append] at p
    refine ⟨[], [], l, g :: r, rfl, rfl, n, by simp, ⟨rfl, rfl, rfl, p.1, fun e he => ⟨(b e (by simp [he])).1, p.2.2 e he g (by simp)⟩⟩, ⟨rfl, rfl, rfl, p.2.1, fun e he => ⟨?_, (b e (List.mem_append.mpr (.inr he))).2⟩⟩⟩
    rcases List.mem_cons.mp he with rfl | he
    · exact Int.le_refl _
    · have := (List.pairwise_cons.mp p.2.1).1 e he; omega
  | succ h =>
    obtain ⟨k, _, s⟩ := c
    obtain ⟨p1, p2, e1, e2, rfl, rfl, s1, s2⟩ := s.split
    rw [if_neg n] at s2
    exact ⟨p1, p2, e1, e2, rfl, rfl, s1.ne n, s2.ne (by simp), ⟨k, n, s1⟩, ⟨k, by simp, s2⟩⟩
theorem big_of {D : Nat} {kd : Int} {its : List Itm} (kk : kd = 1 ∨ kd = 2) (ok : ∀ it ∈ its, ItOk D kd it) (tl : tooL kd its) : 140 ≤ (isz its).sum := by
  unfold tooL at tl
  rcases kk with rfl | rfl
  · rw [if_neg (by decide), encB_sz] at tl; omega
  · rw [if_pos rfl] at tl; rw [isz_in ok]; omega
structure Pn (D : Nat) (kd : Int) (its : List Itm) : Prop where
  ok : ∀ it ∈ its, ItOk D kd it
  sm : ∀ it ∈ its, SmI it
  sz : (isz its).sum ≤ 323
theorem Pn.svI {D i : Nat} {s : PgS} {m : Int} {f t : List Int} {kd : Int} {its : List Itm} (p : Pn D kd its) (kk : kd = 1 ∨ kd = 2) (hD : D ≤ 8) (F : FR i s m f t) (hi : i ≤ 400000) : SvI kd its s :=
  ⟨fun it h => (p.ok it h).kd (by omega), kk, by have := isz_ge (its := its); have := p.sz; omega, by have := F.dl; omega, F.z 0⟩
structure Cut (D : Nat) (kd : Int) (its : List Itm) (x y : Itm) : Prop where
  e1 : (its.take (hk its))[0]? = some x
  e2 : (its.drop (hk its))[0]? = some y
  z1 : (encB kd (its.take (hk its))).length ≤ 256
  z2 : (encB kd (its.drop (hk its))).length ≤ 256
  ne : its.take (hk its) ≠ []
  f : ItOk D kd x
  g : ItOk D kd y
  dr : ∃ r, its.drop (hk its) = y :: r
theorem Pn.cut {D : Nat} {kd : Int} {its : List Itm} (p : Pn D kd its) (kk : kd = 1 ∨ kd = 2) (tl : tooL kd its) : ∃ f g, Cut D kd its f g := by
  obtain ⟨h1, h2, h3, h4⟩ := halves_ok (kd := kd) p.sm (big_of kk p.ok tl) p.sz
  have l1 : 0 < (its.take (hk its)).length := by rw [List.length_take]; omega
  have l2 : 0 < (its.drop (hk its)).length := by rw [List.length_drop]; omega
  have m1 := List.getElem_mem l1
  have m2 := List.getElem_mem l2
  refine ⟨_, _, List.getElem?_eq_getElem l1, List.getElem?_eq_getElem l2, by omega, by omega, List.ne_nil_of_length_pos l1, p.ok _ (List.mem_of_mem_take m1), p.ok _ (List.mem_of_mem_drop m2), ?_⟩
  have z : ∀ l : List Itm, (q : 0 < l.length) → ∃ r, l = l[0] :: r := fun l q => by
    cases l with
    | nil => exact absurd q (by simp)
    | cons x r => exact ⟨r, rfl⟩
  exact z _ l2
theorem nt_of {D : Nat} {kd : Int} {its : List Itm} (kk : kd = 1 ∨ kd = 2) (ok : ∀ it ∈ its, ItOk D kd it) (z : (encB kd its).length ≤ 256) (l : kd = 2 → its.length ≤ 20) : ¬ tooL kd its := by
  unfold tooL
  rcases kk with rfl | rfl
  · rw [if_neg (by decide)]; omega
  · rw [if_pos rfl]; have := l rfl; omega
theorem ItOk.ch {D : Nat} {kd : Int} {g : Itm} {a : Int} (h : ItOk D kd g) (h0 : 0 ≤ a) (h1 : a < 256 ^ 4) : ItOk D 2 (chI g.a g.b a) := ⟨h.a0, h.a1, h.b0, h.b1, h0, h1, .inr ⟨rfl, rfl⟩⟩
theorem Pn.len {D : Nat} {its : List Itm} (p : Pn D 2 its) (tl : tooL 2 its) : (its.take (hk its)).length ≤ 20 ∧ (its.drop (hk its)).length ≤ 20 := by
  obtain ⟨h1, h2, h3, h4⟩ := halves_ok (kd := 2) p.sm (big_of (.inr rfl) p.ok tl) p.sz
  have z1 := isz_in (its := its) p.ok
  have z2 := p.sz
  rw [encB_sz, isz_in fun it h => p.ok it (List.mem_of_mem_take h)] at h3
  rw [encB_sz, isz_in fun it h => p.ok it (List.mem_of_mem_drop h)] at h4
  omega
/-- a page is split, its second half goes to a new page -/
theorem KTc.halves {D i h : Nat} {s : PgS} {m : Int} {f t : List Int} {kd : Int} {its : List Itm} {lo hi : Int} {ps : List Int} {es : List Itm} {fi g : Itm} (F : FR i s m f t) (hi' : i ≤ 400000) (hps : ∀ x ∈ ps, x ∈ t) (c : KTc D (gpg s) h kd its lo hi ps es) (p : Pn D kd its) (tl : tooL kd its) (C : Cut D kd its fi g) :
    ∃ p1 p2 e1 e2 s1, ps = p1 ++ p2 ∧ es = e1 ++ e2 ∧ e1 ≠ [] ∧ e2 ≠ [] ∧ s1 = pwr (palloc s).2 (pad (encB kd (its.drop (hk its)))) (palloc s).1 ∧
      FR (i + 2) s1 (alM m f) f.tail ((palloc s).2 :: t) ∧ KT D (gpg s1) h (palloc s).2 (ky g) hi ((palloc s).2 :: p2) e2 ∧ KTc D (gpg s1) h kd (its.take (hk its)) lo (ky g) p1 e1 ∧ (∀ x ∈ t, gpg s1 x = gpg s x) ∧ ¬ tooL kd (its.take (hk its)) := by
  obtain ⟨r, er⟩ := C.dr
  have c0 := c
  rw [show its = its.take (hk its) ++ g :: r by rw [← er, List.take_append_drop]] at c0
  obtain ⟨p1, p2, e1, e2, rfl, rfl, n1, n2, c1, c2⟩ := c0.cut C.ne
  have kk := c.kk
  have ok1 : ∀ it ∈ its.take (hk its), ItOk D kd it := fun it h => p.ok it (List.mem_of_mem_take h)
  have ok2 : ∀ it ∈ its.drop (hk its), ItOk D kd it := fun it h => p.ok it (List.mem_of_mem_drop h)
  have nt1 : ¬ tooL kd (its.take (hk its)) := nt_of kk ok1 C.z1 fun e => by subst e; exact (p.len tl).1
  have nt2 : ¬ tooL kd (its.drop (hk its)) := nt_of kk ok2 C.z2 fun e => by subst e; exact (p.len tl).2
  rw [← er] at c2
  obtain ⟨W, k, o⟩ := KTc.aput F hi' (fun x hx => hps x (by simp [hx])) c2 ok2 nt2
  exact ⟨p1, p2, e1, e2, _, rfl, rfl, n1, n2, rfl, W, k, c1.congr fun x hx => o x (hps x (by simp [hx])), o, nt1⟩
def Fit (D h i : Nat) (n lo hi : Int) (us : List Int) (es : List Itm) (s : PgS) (C : PgS → Prop) : Prop :=
  ∃ s' m' f' ps', C s' ∧ FR i s' m' f' (ps' ++ us) ∧ KT D (gpg s') h n lo hi ps' es ∧ ∀ x ∈ us, gpg s' x = gpg s x
def Pend (D h i : Nat) (n lo hi : Int) (us : List Int) (es : List Itm) (s : PgS) (C : Int → List Itm → PgS → Prop) : Prop :=
  ∃ s' m' f' ps' kd its, C kd its s' ∧ FR i s' m' f' (n :: (ps' ++ us)) ∧ KTc D (gpg s') h kd its lo hi ps' es ∧ Pn D kd its ∧ gpg s' n = gpg s n ∧ ∀ x ∈ us, gpg s' x = gpg s x
theorem KT.pos {D : Nat} {v : Int → List Int} {h : Nat} : ∀ n lo hi ps es, PgR D v (KTc D v h) n lo hi ps es → Ent D lo hi es := fun _ _ _ _ _ r => KT.ent r
theorem KTc.ne {D : Nat} {v : Int → List Int} {h : Nat} {kd : Int} {its : List Itm} {lo hi : Int} {ps : List Int} {es : List Itm} (c : KTc D v h kd its lo hi ps es) (n : its ≠ []) : es ≠ [] := by
  cases h with
  | zero => obtain ⟨_, _, rfl, _⟩ := c; exact n
  | succ h => exact c.2.2.ne n
theorem perm_in {a b : List Int} {n : Int} {p1 pc p3 us : List Int} (e : a = n :: (p1 ++ (pc ++ p3)) ++ us) (e2 : b = pc ++ (n :: (p1 ++ (p3 ++ us)))) : a.Perm b := by
  subst e; subst e2
  have h1 : (pc ++ (n :: (p1 ++ (p3 ++ us)))).Perm (n :: (pc ++ (p1 ++ (p3 ++ us)))) := List.perm_middle
  refine List.Perm.trans ?_ h1.symm
  show (n :: ((p1 ++ (pc ++ p3)) ++ us)).Perm _
  refine List.Perm.cons n ?_
  rw [List.append_assoc, List.append_assoc, ← List.append_assoc pc, ← List.append_assoc p1, ← List.append_assoc pc]
  rw [← List.append_assoc]
  rw [List.append_assoc (p1 ++ pc)]
  exact List.Perm.append_right _ List.perm_append_comm
theorem nin {l r : List Int} {x : Int} (h : (l ++ r).Nodup) (hx : x ∈ l) : x ∉ r := fun z => (List.nodup_append.mp h).2.2 x hx x z rfl
/-- the parts of an inner page around the child of a key -/
structure Mid where
  l : List Itm
  c : Itm
  r : List Itm
  p1 : List Int
  pc : List Int
  p3 : List Int
  e1 : List Itm
  ec : List Itm
  e3 : List Itm
structure MidP (D : Nat) (v : Int → List Int) (h : Nat) (n lo hi k b : Int) (ps : List Int) (es : List Itm) (M : Mid) : Prop where
  d : Dec D (v n) 2 (M.l ++ M.c :: M.r)
  t : (M.l ++ M.c :: M.r).length ≤ 20
  ep : ps = n :: (M.p1 ++ (M.pc ++ M.p3))
  ee : es = M.e1 ++ (M.ec ++ M.e3)
  j : cpl (M.l ++ M.c :: M.r) k b = M.l.length
  jt : ((M.l ++ M.c :: M.r).tail.filter fun c => pLe c.a c.b k b).length = M.l.length
  s1 : Seg (KT D v h) lo M.l (ky M.c) M.p1 M.e1
  kc : KT D v h M.c.c (if M.l = [] then lo else ky M.c) (nxk hi M.r) M.pc M.ec
  s3 : Seg (KT D v h) (nxk hi M.r) M.r hi M.p3 M.e3
  nc : M.ec ≠ []
  k1 : (if M.l = [] then lo else ky M.c) ≤ kp k b
  k2 : kp k b < nxk hi M.r
  b1 : ∀ x ∈ M.e1, ItOk D 1 x ∧ ky x < kp k b
  b3 : ∀ x ∈ M.e3, ItOk D 1 x ∧ kp k b < ky x
theorem KT.mid {D : Nat} {v : Int → List Int} {h : Nat} {n lo hi : Int} {ps : List Int} {es : List Itm} {k b : Int} (K : KT D v (h + 1) n lo hi ps es) (hb : Rb b) (h1 : lo ≤ kp k b) (h2 : kp k b < hi) : ∃ M : Mid, MidP D v h n lo hi k b ps es M := by
  obtain ⟨kd, cs, ps', rfl, d, t, rfl, ne, s⟩ := K
  obtain ⟨l, c, r, rfl, j, g1, g2, jt⟩ := s.find (D := D) KT.pos ne (fun c hc => (d.ok c hc).rb) hb h2 (k := k)
  obtain ⟨p1, p2, e1, e2, rfl, rfl, s1, s2⟩ := s.split
  obtain ⟨pc, p3, ec, e3, rfl, rfl, nc, kc, s3⟩ := s2
  have z1 := s1.ent KT.pos
  have z3 := s3.ent KT.pos
  have kl : (if l = [] then lo else ky c) ≤ kp k b := by
    split
    · exact h1
    · rename_i q; exact g1 q
  refine ⟨⟨l, c, r, p1, pc, p3, e1, ec, e3⟩, d, ?_, rfl, rfl, j, jt, s1, kc, s3, nc, kl, g2, fun x hx => ⟨z1.k x hx, ?_⟩, fun x hx => ⟨z3.k x hx, ?_⟩⟩
  · show (l ++ c :: r).length ≤ 20
    unfold tooL at t; rw [if_pos rfl] at t; omega
  · have a : ky x < ky c := (z1.b x hx).2
    by_cases q : l = []
    · subst q
      obtain ⟨_, rfl⟩ := s1
      simp at hx
    · rw [if_neg q] at kl; omega
  · have a : nxk hi r ≤ ky x := (z3.b x hx).1
    omega
theorem Fit.mk {D h i : Nat} {n lo hi : Int} {us : List Int} {es : List Itm} {s s' : PgS} {C : PgS → Prop} {m' : Int} {f' ps' : List Int} (c : C s') (F : FR i s' m' f' (ps' ++ us)) (K : KT D (gpg s') h n lo hi ps' es) (u : ∀ x ∈ us, gpg s' x = gpg s x) : Fit D h i n lo hi us es s C := ⟨s', m', f', ps', c, F, K, u⟩
/-- the child fits: so does the page -/
theorem Mid.fit {D h i : Nat} {n lo hi k b : Int} {ps us : List Int} {es ec' es' : List Itm} {s : PgS} {C : PgS → Prop} {M : Mid} (P : MidP D (gpg s) h n lo hi k b ps es M) (ne : ec' ≠ []) (ee : es' = M.e1 ++ (ec' ++ M.e3))
    (f : Fit D h i M.c.c (if M.l = [] then lo else ky M.c) (nxk hi M.r) (n :: (M.p1 ++ (M.p3 ++ us))) ec' s C) : Fit D (h + 1) i n lo hi us es' s C := by
  obtain ⟨s', m', f', pc', c, F, K, u⟩ := f
  refine ⟨s', m', f', n :: (M.p1 ++ (pc' ++ M.p3)), c, F.perm (perm_in rfl rfl).symm, ⟨2, M.l ++ M.c :: M.r, _, rfl, by rw [u n (by simp)]; exact P.d, by unfold tooL; rw [if_pos rfl]; have := P.t; omega, rfl, by simp, ?_⟩, fun x hx => u x (by simp [hx])⟩
  rw [ee]
  refine Seg.join (P.s1.map fun n lo hi p e hp r => KT.congr (fun x hx => u x (by simp [hp x hx])) r) ⟨pc', M.p3, ec', M.e3, rfl, rfl, ne, K, P.s3.map fun n lo hi p e hp r => KT.congr (fun x hx => u x (by simp [hp x hx])) r⟩
/-- the child is split: the page gets one more -/
theorem Mid.two {D h : Nat} {n lo hi k b : Int} {ps us : List Int} {es : List Itm} {s s' : PgS} {M : Mid} (P : MidP D (gpg s) h n lo hi k b ps es M) {G : Itm} {q1 q2 : List Int} {f1 f2 : List Itm} (n1 : f1 ≠ []) (n2 : f2 ≠ [])
    (k1 : KT D (gpg s') h M.c.c (if M.l = [] then lo else ky M.c) (ky G) q1 f1) (k2 : KT D (gpg s') h G.c (ky G) (nxk hi M.r) q2 f2) (u : ∀ x ∈ n :: (M.p1 ++ (M.p3 ++ us)), gpg s' x = gpg s x) :
    KTc D (gpg s') (h + 1) 2 (M.l ++ M.c :: G :: M.r) lo hi (M.p1 ++ (q1 ++ (q2 ++ M.p3))) (M.e1 ++ (f1 ++ (f2 ++ M.e3))) := by
  refine ⟨rfl, by simp, Seg.join (P.s1.map fun n lo hi p e hp r => KT.congr (fun x hx => u x (by simp [hp x hx])) r) ⟨q1, q2 ++ M.p3, f1, f2 ++ M.e3, rfl, rfl, n1, k1, q2, M.p3, f2, M.e3, rfl, rfl, n2, k2, P.s3.map fun n lo hi p e hp r => KT.congr (fun x hx => u x (by simp [hp x hx])) r⟩⟩
theorem isz_app (a b : List Itm) : (isz (a ++ b)).sum = (isz a).sum + (isz b).sum := by unfold isz; rw [List.map_append, List.sum_append]
theorem isz_app12 {D : Nat} {its : List Itm} (p : Pn D 2 its) (tl : tooL 2 its) : 2 * hk its ≤ its.length ∧ its.length ≤ 2 * hk its + 1 := by
  have b : ∀ x ∈ isz its, x ≤ 12 := fun x hx => by
    obtain ⟨it, hi, rfl⟩ := List.mem_map.mp hx
    have := (p.ok it hi).in12; omega
  have z := isz_in (its := its) p.ok
  have g := big_of (.inr rfl) p.ok tl
  have c := hcnt_sum (isz its).sum (isz its) 0 12 (by omega) (by omega) b
  have e : (isz its).length = its.length := List.length_map _
  have le := hcnt_len (isz its).sum (isz its) 0
  have t : ((isz its).take (hk its)).sum = 12 * hk its := by
    rw [← isz_take, isz_in fun it h => p.ok it (List.mem_of_mem_take h), List.length_take]
    unfold hk
    omega
  unfold hk at *
  rw [t] at c
  omega
theorem pot_cut {D : Nat} {kd : Int} {its : List Itm} (p : Pn D kd its) (kk : kd = 1 ∨ kd = 2) (tl : tooL kd its) : ew kd (its.take (hk its)) + ew kd (its.drop (hk its)) + 8 + (if kd = 2 then 2 else 0) ≤ ew kd its + (if kd = 2 then 0 else 8) := by
  rcases kk with rfl | rfl
  · show 0 + 0 + 8 + 0 ≤ 0 + 8; omega
  · have h := isz_app12 p tl
    have z := isz_in (its := its) p.ok
    have w := p.sz
    have g : 20 < its.length := by unfold tooL at tl; rw [if_pos rfl] at tl; exact tl
    unfold ew
    rw [if_pos rfl, if_pos rfl, if_pos rfl, if_pos rfl, if_pos rfl, List.length_take, List.length_drop]
    omega
theorem ins_go {D : Nat} (hD : D ≤ 8) {it : Itm} (hit : ItOk D 1 it) (hsm : SmI it) : ∀ (h : Nat) {n lo hi : Int} {ps : List Int} {es : List Itm} {s : PgS} {i : Nat} {m : Int} {f us : List Int},
    FR i s m f (ps ++ us) → KT D (gpg s) h n lo hi ps es → (∀ e ∈ es, SmI e) → lo ≤ ky it → ky it < hi → (∀ e ∈ es, ky e ≠ ky it) → i + 4 * h + 4 ≤ 400000 →
    ∃ path m0 e0, Way D (gpg s) it.a it.b n path m0 e0 ∧ path.length = h ∧ e0.length ≤ 21 ∧
      (Fit D h (i + 4 * h) n lo hi us (insI it es) s (fun s' => (∀ pa, Sv D (pa ++ path) m0 1 (insI it e0) s s') ∧ Pot s' ≤ Pot s + 9) ∨
       Pend D h (i + 4 * h) n lo hi us (insI it es) s (fun kd its s1 => (∀ pa s2, Sv D pa n kd its s1 s2 → Sv D (pa ++ path) m0 1 (insI it e0) s s2) ∧ Pot s1 + ew kd its ≤ Pot s + xw (gpg s1 n) + (if kd = 2 then 9 else 0)))
  | 0, n, lo, hi, ps, es, s, i, m, f, us, F, K, sm, h1, h2, ne, hi' => by
    have E := K.ent
    obtain ⟨kd, its, ps', rfl, d, t, rfl, rfl, rfl, p, b⟩ := K
    have pm := ins_perm it es
    refine ⟨[], n, es, .leaf d, rfl, d.lz, .inr ⟨s, m, f, [], 1, insI it es, ⟨fun pa s2 S => by rw [List.append_nil]; exact S, by show Pot s + 0 ≤ Pot s + xw (gpg s n) + 0; omega⟩, F, ⟨rfl, rfl, rfl, ins_asc hit.rb (fun c hc => (E.k c hc).rb) p ne, fun e he => ?_⟩, ⟨fun e he => ?_, fun e he => ?_, ?_⟩, rfl, fun _ _ => rfl⟩⟩
    · rcases List.mem_cons.mp (pm.mem_iff.mp he) with rfl | q
      · exact ⟨h1, h2⟩
      · exact b e q
    · rcases List.mem_cons.mp (pm.mem_iff.mp he) with rfl | q
      · exact hit
      · exact E.k e q
    · rcases List.mem_cons.mp (pm.mem_iff.mp he) with rfl | q
      · exact hsm
      · exact sm e q
    · have z : (isz (insI it es)).sum = (isz (it :: es)).sum := (pm.map fun it => (encI it).length).sum_nat
      have y := d.fit (.inl rfl)
      rw [encB_sz] at y
      have w : (isz (it :: es)).sum = (encI it).length + (isz es).sum := rfl
      have hsm' : (encI it).length ≤ 69 := hsm
      omega
  | h + 1, n, lo, hi, ps, es, s, i, m, f, us, F, K, sm, h1, h2, ne, hi' => by
    obtain ⟨M, P⟩ := K.mid hit.rb h1 h2
    have eps := P.ep
    have ees := P.ee
    have F1 := F.perm (perm_in (by rw [eps]) rfl)
    have iee : insI it es = M.e1 ++ (insI it M.ec ++ M.e3) := by
      rw [ees]
      refine ins_mid hit.rb (fun c hc => (P.kc.ent.k c hc).rb) P.kc.ent.p (fun x hx => ne x (by rw [ees]; simp [hx])) (fun x hx => ⟨(P.b1 x hx).1.rb, (P.b1 x hx).2⟩) fun x hx => ⟨(P.b3 x hx).1.rb, (P.b3 x hx).2⟩
    have inz : insI it M.ec ≠ [] := fun z => by have := (ins_perm it M.ec).length_eq; rw [z] at this; simp at this
    obtain ⟨path, m0, e0, way, lp, le, Z⟩ := ins_go hD hit hsm h F1 P.kc (fun e he => sm e (by rw [ees]; simp [he])) P.k1 P.k2 (fun e he => ne e (by rw [ees]; simp [he])) (by omega)
    have gc : (M.l ++ M.c :: M.r)[cpl (M.l ++ M.c :: M.r) it.a it.b]? = some M.c := by rw [P.j]; simp
    have way' := Way.node P.d gc way
    rw [P.j] at way'
    refine ⟨(n, M.l.length) :: path, m0, e0, way', by rw [List.length_cons, lp], le, ?_⟩
    have ap : ∀ pa : List (Int × Nat), pa ++ (n, M.l.length) :: path = (pa ++ [(n, M.l.length)]) ++ path := fun pa => by simp
    rcases Z with Z | Z
    · refine .inl (Mid.fit P inz iee ?_)
      obtain ⟨s', m', f', ps', c, F', K', u⟩ := Z
      exact ⟨s', m', f', ps', ⟨fun pa => by rw [ap]; exact c.1 _, c.2⟩, F'.le (by omega), K', u⟩
    · obtain ⟨s1, m1, f1, pc', kd, its, ⟨S, potS⟩, F2, Kc, pn, eg, u⟩ := Z
      have ndc := (List.nodup_cons.mp F2.ndt).1
      by_cases tl : tooL kd its
      · obtain ⟨fi, g, C⟩ := pn.cut Kc.kk tl
        obtain ⟨q1, q2, f1', f2', s2, rfl, eee, n1, n2, es2, W, k2, c1, o, nt1⟩ := Kc.halves F2 (by omega) (fun x hx => by simp [hx]) pn tl C
        have apos := W.pos (n := (palloc s1).2) (by simp)
        have po1 := Pot.aput F2 (by omega) (pad (encB kd (its.drop (hk its))))
        rw [← es2, xw_enc] at po1
        have po2 := Pot.write W (n := M.c.c) (by simp) (pad (encB kd (its.take (hk its))))
        rw [xw_enc, o M.c.c (by simp)] at po2
        have po3 := pot_cut pn Kc.kk tl
        have wmb := W.mb
        obtain ⟨_, W3, k1, o3⟩ := c1.put W (n := M.c.c) (by simp) (fun z => ndc (by simp [z])) (fun it hh => pn.ok it (List.mem_of_mem_take hh)) nt1
        have nda := (List.nodup_cons.mp W.ndt).1
        have nda' : (palloc s1).2 ≠ M.c.c := fun e => nda (by rw [e]; simp)
        have o4 : ∀ x ∈ n :: (M.p1 ++ (M.p3 ++ us)), gpg (pwr M.c.c (pad (encB kd (its.take (hk its)))) s2) x = gpg s x := fun x hx => by
          rw [o3 x fun e => ndc (by rw [← e]; exact List.mem_append.mpr (.inr hx)), o x (List.mem_cons_of_mem _ (List.mem_append.mpr (.inr hx)))]
          exact u x hx
        have k2' := k2.congr (v' := gpg (pwr M.c.c (pad (encB kd (its.take (hk its)))) s2)) fun x hx => o3 x (by
          rcases List.mem_cons.mp hx with rfl | hx
          · exact nda'
          · exact fun e => ndc (by rw [← e]; simp [hx]))
        have okG : ItOk D 2 (chI g.a g.b (palloc s1).2) := C.g.ch (by omega) (by omega)
        have kc' := Mid.two (us := us) P (G := chI g.a g.b (palloc s1).2) n1 n2 k1 k2' o4
        have dd : Dec D (gpg (pwr M.c.c (pad (encB kd (its.take (hk its)))) s2) n) 2 (M.l ++ M.c :: M.r) := by rw [o4 n (by simp)]; exact P.d
        have okc := P.d.ok
        have okn : ∀ x ∈ M.l ++ M.c :: (chI g.a g.b (palloc s1).2) :: M.r, ItOk D 2 x := fun x hx => by
          rcases List.mem_append.mp hx with q | q
          · exact okc x (by simp [q])
          · rcases List.mem_cons.mp q with rfl | q
            · exact okc _ (by simp)
            · rcases List.mem_cons.mp q with rfl | q
              · exact okG
              · exact okc x (by simp [q])
        have lt := P.t
        refine .inr ⟨pwr M.c.c (pad (encB kd (its.take (hk its)))) s2, alM m1 f1, f1.tail, M.p1 ++ ((M.c.c :: q1) ++ (((palloc s1).2 :: q2) ++ M.p3)), 2, M.l ++ M.c :: (chI g.a g.b (palloc s1).2) :: M.r, ⟨fun pa s3 S3 => ?_, ?_⟩, ?_, ?_, ⟨okn, fun x hx => by have := (okn x hx).in12; unfold SmI; omega, ?_⟩, o4 n (by simp), fun x hx => o4 x (by simp [hx])⟩
        rotate_left 2
        · refine (W3.le (j := i + 4 * (h + 1)) (by omega)).perm (t' := n :: (M.p1 ++ ((M.c.c :: q1) ++ (((palloc s1).2 :: q2) ++ M.p3)) ++ us)) ?_
          have e1 : (palloc s1).2 :: M.c.c :: (q1 ++ q2 ++ n :: (M.p1 ++ (M.p3 ++ us))) = ((palloc s1).2 :: M.c.c :: (q1 ++ q2)) ++ (n :: (M.p1 ++ (M.p3 ++ us))) := rfl
          rw [e1]
          refine (perm_in (a := n :: (M.p1 ++ (((palloc s1).2 :: M.c.c :: (q1 ++ q2)) ++ M.p3)) ++ us) rfl rfl).symm.trans ?_
          refine List.Perm.append_right us (List.Perm.cons n (List.Perm.append_left M.p1 ?_))
          rw [← List.append_assoc (M.c.c :: q1)]
          refine List.Perm.append_right M.p3 ?_
          exact (List.perm_middle (a := (palloc s1).2) (l₁ := M.c.c :: q1) (l₂ := q2)).symm
        · rw [iee, eee, List.append_assoc]
          exact kc'
        · rw [isz_in okn]
          simp only [List.length_append, List.length_cons] at lt ⊢
          omega
        · rw [ap]
          refine S _ _ ?_
          have e5 : (M.l ++ M.c :: M.r).take (M.l.length + 1) = M.l ++ [M.c] := by
            rw [show M.l ++ M.c :: M.r = (M.l ++ [M.c]) ++ M.r by simp, show M.l.length + 1 = (M.l ++ [M.c]).length by simp, List.take_left]
          have e6 : (M.l ++ M.c :: M.r).drop (M.l.length + 1) = M.r := by
            rw [show M.l ++ M.c :: M.r = (M.l ++ [M.c]) ++ M.r by simp, show M.l.length + 1 = (M.l ++ [M.c]).length by simp, List.drop_left]
          refine Sv.up (pn.svI Kc.kk hD F2 (by omega)) tl C.e1 C.e2 C.z1 C.z2 rfl es2 rfl dd (by simp) ?_
          rw [e5, e6]
          rw [show M.l ++ [M.c] ++ [chI g.a g.b (palloc s1).2] ++ M.r = M.l ++ M.c :: (chI g.a g.b (palloc s1).2) :: M.r by simp]
          exact S3
        · have x1 := dd.xw
          rw [x1]
          unfold ew
          rw [if_pos rfl, if_pos rfl, if_pos rfl]
          rw [List.length_append, List.length_append, List.length_cons, List.length_cons, List.length_cons]
          have k12 := Kc.kk
          split at potS <;> rename_i qk
          · rw [if_pos qk, if_pos qk] at po3; omega
          · rw [if_neg qk, if_neg qk] at po3; omega
      · obtain ⟨ft, W, k, o⟩ := Kc.put F2 (n := M.c.c) (by simp) (fun z => ndc (by simp [z])) pn.ok tl
        refine .inl (Mid.fit P inz iee ⟨_, m1, f1, M.c.c :: pc', ⟨fun pa => ?_, ?_⟩, W.le (by omega), k, fun x hx => ?_⟩)
        · rw [ap]
          exact S _ _ (.fit (pn.svI Kc.kk hD F2 (by omega)) tl ft)
        · have po2 := Pot.write F2 (n := M.c.c) (by simp) (pad (encB kd its))
          rw [xw_enc] at po2
          have : (if kd = 2 then 9 else 0) ≤ 9 := by split <;> omega
          omega
        · rw [o x fun e => ndc (by rw [← e]; exact List.mem_append.mpr (.inr hx))]
          exact u x hx
/-! ### a whole tree: root r, height h, pages ps, entries es; us are the other pages -/
def Top : Int := 18446744073709551616
structure KS (D : Nat) (r : Int) (i : Nat) (s : PgS) (m : Int) (f us : List Int) (h : Nat) (ps : List Int) (es : List Itm) : Prop where
  F : FR i s m f (ps ++ us)
  K : KT D (gpg s) h r 0 Top ps es
  sm : ∀ e ∈ es, SmI e
theorem ItOk.top {D : Nat} {kd : Int} {it : Itm} (h : ItOk D kd it) : 0 ≤ ky it ∧ ky it < Top := h.kr
theorem KT.dec {D : Nat} {v : Int → List Int} {h : Nat} {n lo hi : Int} {ps : List Int} {es : List Itm} (K : KT D v h n lo hi ps es) : ∃ kd its, Dec D (v n) kd its := by
  obtain ⟨kd, its, _, _, d, _⟩ := K
  exact ⟨kd, its, d⟩
theorem enc_nz {kd : Int} {its : List Itm} (h : kd ≠ 0) : pad (encB kd its) ≠ zeros := fun z => by
  have : (pad (encB kd its)).head? = zeros.head? := by rw [z]
  unfold pad encB zeros at this
  simp at this
  exact h this
theorem Dec.strict {D : Nat} {v : List Int} {kd : Int} {its : List Itm} (d : Dec D v kd its) (n : v ≠ zeros ∨ its ≠ []) : v = pad (encB kd its) := by
  rcases d with ⟨e, _⟩ | ⟨e, _, e2⟩
  · exact e
  · rcases n with n | n
    · exact absurd e n
    · exact absurd e2 n
theorem Dec.nz {D : Nat} {v : List Int} {kd : Int} {its : List Itm} (d : Dec D v kd its) (n : its ≠ []) : v ≠ zeros := by
  rw [d.strict (.inr n)]
  exact enc_nz (by rcases d.kk with e | e <;> rw [e] <;> decide)
theorem KTc.nil {D : Nat} {v : Int → List Int} {h : Nat} {kd : Int} {its : List Itm} {lo hi : Int} {ps : List Int} {es : List Itm} (c : KTc D v h kd its lo hi ps es) (n : es ≠ []) : its ≠ [] := by
  cases h with
  | zero => obtain ⟨_, _, rfl, _⟩ := c; exact n
  | succ h => exact c.2.1
theorem KT.nz {D : Nat} {v : Int → List Int} {h : Nat} {n lo hi : Int} {ps : List Int} {es : List Itm} (K : KT D v h n lo hi ps es) (ne : es ≠ []) : v n ≠ zeros := by
  obtain ⟨kd, its, _, _, d, _, c⟩ := K
  exact d.nz (c.nil ne)
theorem Seg.one {R : KR} {lo hi x : Int} {c : Itm} {cs : List Itm} {p1 p2 : List Int} {e1 e2 : List Itm} (n : e1 ≠ []) (ex : x = nxk hi cs) (r : R c.c lo x p1 e1) (s : Seg R x cs hi p2 e2) : Seg R lo (c :: cs) hi (p1 ++ p2) (e1 ++ e2) := by
  subst ex
  exact ⟨p1, p2, e1, e2, rfl, rfl, n, r, s⟩
theorem ins_top {D : Nat} (hD : D ≤ 8) {it : Itm} (hit : ItOk D 1 it) (hsm : SmI it) {r : Int} {i : Nat} {s : PgS} {m : Int} {f us : List Int} {h : Nat} {ps : List Int} {es : List Itm} (S : KS D r i s m f us h ps es) (ne : ∀ e ∈ es, ky e ≠ ky it) (hi : i + 4 * h + 8 ≤ 400000) :
    ∃ path m0 e0 s' m' f' ps' h', Way D (gpg s) it.a it.b r path m0 e0 ∧ path.length = h ∧ e0.length ≤ 21 ∧ Sv D path m0 1 (insI it e0) s s' ∧ KS D r (i + 4 * h + 8) s' m' f' us h' ps' (insI it es) ∧ h' ≤ h + 1 ∧ Pot s' ≤ Pot s + 16 ∧ ∀ x ∈ us, gpg s' x = gpg s x := by
  obtain ⟨path, m0, e0, way, lp, le, Z⟩ := ins_go hD hit hsm h S.F S.K S.sm hit.top.1 hit.top.2 ne (by omega)
  have sm' : ∀ e ∈ insI it es, SmI e := fun e he => by
    rcases List.mem_cons.mp ((ins_perm it es).mem_iff.mp he) with rfl | q
    · exact hsm
    · exact S.sm e q
  rcases Z with ⟨s', m', f', ps', ⟨c, potc⟩, F', K', u⟩ | ⟨s1, m1, f1, pc, kd, its, ⟨C, potC⟩, F1, Kc, pn, eg, u⟩
  · exact ⟨path, m0, e0, s', m', f', ps', h, way, lp, le, c [], ⟨F'.le (by omega), K', sm'⟩, by omega, by omega, u⟩
  · have nd1 := (List.nodup_cons.mp F1.ndt).1
    by_cases tl : tooL kd its
    · obtain ⟨fi, g, Cc⟩ := pn.cut Kc.kk tl
      obtain ⟨q1, q2, f1', f2', s2, rfl, eee, n1, n2, es2, W, k2, c1, o, nt1⟩ := Kc.halves F1 (by omega) (fun x hx => by simp [hx]) pn tl Cc
      have nda := (List.nodup_cons.mp W.ndt).1
      have ok1 : ∀ it ∈ its.take (hk its), ItOk D kd it := fun it hh => pn.ok it (List.mem_of_mem_take hh)
      obtain ⟨W2, k1, o2⟩ := KTc.aput W (by omega) (fun x hx => by simp [hx]) c1 ok1 nt1
      have ndb := (List.nodup_cons.mp W2.ndt).1
      have pa := W2.pos (n := (palloc s1).2) (by simp)
      have pb := W2.pos (n := (palloc s2).2) (by simp)
      have mb := W2.mb
      have k2' := k2.congr (v' := gpg (pwr (palloc s2).2 (pad (encB kd (its.take (hk its)))) (palloc s2).1)) fun x hx => o2 x (by
        rcases List.mem_cons.mp hx with rfl | hx
        · simp
        · simp [hx])
      have okf : ItOk D 2 (chI fi.a fi.b (palloc s2).2) := Cc.f.ch (by omega) (by omega)
      have okg : ItOk D 2 (chI g.a g.b (palloc s1).2) := Cc.g.ch (by omega) (by omega)
      have okn : ∀ x ∈ [chI fi.a fi.b (palloc s2).2, chI g.a g.b (palloc s1).2], ItOk D 2 x := fun x hx => by
        rcases List.mem_cons.mp hx with rfl | hx
        · exact okf
        · rw [List.mem_singleton.mp hx]; exact okg
      have Kn : KTc D (gpg (pwr (palloc s2).2 (pad (encB kd (its.take (hk its)))) (palloc s2).1)) (h + 1) 2 [chI fi.a fi.b (palloc s2).2, chI g.a g.b (palloc s1).2] 0 Top (((palloc s2).2 :: q1) ++ (((palloc s1).2 :: q2) ++ [])) (f1' ++ (f2' ++ [])) :=
        ⟨rfl, by simp, Seg.one n1 rfl k1 (Seg.one n2 rfl k2' ⟨rfl, rfl⟩)⟩
      have hr : r ∉ ((palloc s2).2 :: q1) ++ (((palloc s1).2 :: q2) ++ []) := fun z => by
        simp only [List.append_nil, List.mem_append, List.mem_cons] at z
        rcases z with (z | z) | z | z
        · exact ndb (by rw [← z]; simp)
        · exact nd1 (by simp [z])
        · exact nda (by rw [← z]; simp)
        · exact nd1 (by simp [z])
      obtain ⟨_, W3, k3, o3⟩ := Kn.put W2 (n := r) (by simp) hr okn (by unfold tooL; rw [if_pos rfl]; exact Nat.not_lt.mpr (Nat.le_of_ble_eq_true rfl))
      have potF : Pot (pwr r (pad (encB 2 [chI fi.a fi.b (palloc s2).2, chI g.a g.b (palloc s1).2])) (pwr (palloc s2).2 (pad (encB kd (its.take (hk its)))) (palloc s2).1)) ≤ Pot s + 16 := by
        have po1 := Pot.aput F1 (by omega) (pad (encB kd (its.drop (hk its))))
        rw [← es2, xw_enc] at po1
        have po2 := Pot.aput W (by omega) (pad (encB kd (its.take (hk its))))
        rw [xw_enc] at po2
        have po3 := Pot.write W2 (n := r) (by simp) (pad (encB 2 [chI fi.a fi.b (palloc s2).2, chI g.a g.b (palloc s1).2]))
        rw [xw_enc, o2 r (by simp), o r (by simp), show ew 2 [chI fi.a fi.b (palloc s2).2, chI g.a g.b (palloc s1).2] = 0 from rfl] at po3
        have po4 := pot_cut pn Kc.kk tl
        split at potC <;> rename_i qk
        · rw [if_pos qk, if_pos qk] at po4; omega
        · rw [if_neg qk, if_neg qk] at po4; omega
      refine ⟨path, m0, e0, _, _, _, _, h + 1, way, lp, le, C [] _ (Sv.root (pn.svI Kc.kk hD F1 (by omega)) tl Cc.e1 Cc.e2 Cc.z1 Cc.z2 rfl es2 (W.z 0) rfl rfl), ⟨(W3.le (j := i + 4 * h + 8) (by omega)).perm ?_, by rw [eee, show f1' ++ f2' = f1' ++ (f2' ++ []) by rw [List.append_nil]]; exact k3, sm'⟩, by omega, potF, fun x hx => ?_⟩
      · rw [List.append_nil]
        have e1 : (palloc s2).2 :: (palloc s1).2 :: r :: (q1 ++ q2 ++ us) = [(palloc s2).2, (palloc s1).2] ++ (r :: (q1 ++ q2 ++ us)) := rfl
        rw [e1]
        refine List.perm_middle.trans (List.Perm.cons r ?_)
        show ((palloc s2).2 :: (palloc s1).2 :: (q1 ++ q2 ++ us)).Perm (((palloc s2).2 :: (q1 ++ (palloc s1).2 :: q2)) ++ us)
        rw [← List.cons_append, ← List.cons_append]
        refine List.Perm.append_right us (List.Perm.cons _ (List.perm_middle).symm)
      · rw [o3 x fun e => nd1 (by rw [← e]; simp [hx]), o2 x (by simp [hx]), o x (by simp [hx])]
        exact u x hx
    · obtain ⟨ft, W, k, o⟩ := Kc.put F1 (n := r) (by simp) (fun z => nd1 (by simp [z])) pn.ok tl
      exact ⟨path, m0, e0, _, m1, f1, _, h, way, lp, le, C [] _ (.fit (pn.svI Kc.kk hD F1 (by omega)) tl ft), ⟨W.le (by omega), k, sm'⟩, by omega, by
        have po2 := Pot.write F1 (n := r) (by simp) (pad (encB kd its))
        rw [xw_enc] at po2
        have : (if kd = 2 then 9 else 0) ≤ 9 := by split <;> omega
        omega, fun x hx => by rw [o x fun e => nd1 (by rw [← e]; simp [hx])]; exact u x hx⟩
/-! ### a deletion -/
theorem del_app (k b : Int) (x y : List Itm) : delI k b (x ++ y) = delI k b x ++ delI k b y := List.filter_append ..
theorem del_id {k b : Int} (hb : Rb b) {x : List Itm} (h : ∀ e ∈ x, Rb e.b ∧ ky e ≠ kp k b) : delI k b x = x := by
  unfold delI
  refine List.filter_eq_self.mpr fun e he => ?_
  obtain ⟨h1, h2⟩ := h e he
  have : ¬ ([e.a, e.b] = [k, b]) := fun z => h2 (by simp only [List.cons.injEq, and_true] at z; unfold ky; rw [z.1, z.2])
  rw [decide_eq_false this]; rfl
def Emp (D h i : Nat) (n lo hi : Int) (us : List Int) (es : List Itm) (s : PgS) (C : Int → List Itm → PgS → Prop) : Prop :=
  ∃ s' m' f' kd, C kd [] s' ∧ FR i s' m' f' (n :: us) ∧ es = [] ∧ (kd = 1 ∨ kd = 2) ∧ gpg s' n = gpg s n ∧ ∀ x ∈ us, gpg s' x = gpg s x
def Pe2 (D h i : Nat) (n lo hi : Int) (us : List Int) (es : List Itm) (s : PgS) (C : Int → List Itm → PgS → Prop) : Prop :=
  ∃ s' m' f' ps' kd its, C kd its s' ∧ FR i s' m' f' (n :: (ps' ++ us)) ∧ KTc D (gpg s') h kd its lo hi ps' es ∧ (∀ it ∈ its, ItOk D kd it) ∧ its ≠ [] ∧ ¬ tooL kd its ∧ gpg s' n = gpg s n ∧ ∀ x ∈ us, gpg s' x = gpg s x
theorem svI_of {D i : Nat} {s : PgS} {m : Int} {f t : List Int} {kd : Int} {its : List Itm} (ok : ∀ it ∈ its, ItOk D kd it) (nt : ¬ tooL kd its) (kk : kd = 1 ∨ kd = 2) (hD : D ≤ 8) (F : FR i s m f t) (hi : i ≤ 400000) : SvI kd its s :=
  ⟨fun it h => (ok it h).kd (by omega), kk, by have := isz_ge (its := its); have z := fits_of kk ok nt; rw [encB_sz] at z; omega, by have := F.dl; omega, F.z 0⟩
theorem stop_of {D i : Nat} {s : PgS} {m n : Int} {f t : List Int} {kd : Int} {its : List Itm} {pa : List (Int × Nat)} (ok : ∀ it ∈ its, ItOk D kd it) (nt : ¬ tooL kd its) (ne : its ≠ []) (kk : kd = 1 ∨ kd = 2) (hD : D ≤ 8) (F : FR i s m f t) (hi : i ≤ 400000) : Dl D pa n kd its s (pwr n (pad (encB kd its)) s) := by
  have h := Dl.stop (D := D) (path := pa) (n := n) (s := s) (fun z => absurd z ne) (svI_of ok nt kk hD F hi)
  rw [if_neg ne] at h
  exact h (fits_of kk ok nt)
theorem tooL_le {kd : Int} {a b : List Itm} (h : ¬ tooL kd b) (l : a.length ≤ b.length) (z : (isz a).sum ≤ (isz b).sum) : ¬ tooL kd a := by
  unfold tooL at *
  rw [encB_sz] at *
  split at h
  · rename_i q; rw [if_pos q]; omega
  · rename_i q; rw [if_neg q]; omega
theorem isz_filter (p : Itm → Bool) : ∀ l : List Itm, (isz (l.filter p)).sum ≤ (isz l).sum
  | [] => Nat.le_refl _
  | x :: l => by
    have ih := isz_filter p l
    have e : (isz (x :: l)).sum = (encI x).length + (isz l).sum := rfl
    by_cases q : p x = true
    · rw [List.filter_cons_of_pos q]
      have e2 : (isz (x :: l.filter p)).sum = (encI x).length + (isz (l.filter p)).sum := rfl
      omega
    · rw [List.filter_cons_of_neg q]; omega
theorem del_go {D : Nat} (hD : D ≤ 8) {kk bb : Int} (hb : Rb bb) : ∀ (h : Nat) {n lo hi : Int} {ps : List Int} {es : List Itm} {s : PgS} {i : Nat} {m : Int} {f us : List Int},
    FR i s m f (ps ++ us) → KT D (gpg s) h n lo hi ps es → lo ≤ kp kk bb → kp kk bb < hi → i + 4 * h + 4 ≤ 400000 →
    ∃ path m0 e0, Way D (gpg s) kk bb n path m0 e0 ∧ path.length = h ∧ e0.length ≤ 21 ∧
      ((delI kk bb es ≠ [] ∧ Fit D h (i + 4 * h) n lo hi us (delI kk bb es) s (fun s' => (∀ pa, Dl D (pa ++ path) m0 1 (delI kk bb e0) s s') ∧ Pot s' ≤ Pot s)) ∨
       Pe2 D h (i + 4 * h) n lo hi us (delI kk bb es) s (fun kd its s1 => (∀ pa s2, Dl D pa n kd its s1 s2 → Dl D (pa ++ path) m0 1 (delI kk bb e0) s s2) ∧ Pot s1 ≤ Pot s ∧ ew kd its ≤ xw (gpg s1 n)) ∨
       Emp D h (i + 4 * h) n lo hi us (delI kk bb es) s (fun kd its s1 => (∀ pa s2, Dl D pa n kd its s1 s2 → Dl D (pa ++ path) m0 1 (delI kk bb e0) s s2) ∧ Pot s1 ≤ Pot s ∧ ew kd its ≤ xw (gpg s1 n)))
  | 0, n, lo, hi, ps, es, s, i, m, f, us, F, K, h1, h2, hi' => by
    have E := K.ent
    obtain ⟨kd, its, ps', rfl, d, t, rfl, rfl, rfl, p, b⟩ := K
    refine ⟨[], n, es, .leaf d, rfl, d.lz, ?_⟩
    by_cases z : delI kk bb es = []
    · exact .inr (.inr ⟨s, m, f, 1, ⟨fun pa s2 S => by rw [List.append_nil, z]; exact S, Nat.le_refl _, Nat.zero_le _⟩, F, z, .inl rfl, rfl, fun _ _ => rfl⟩)
    · have sub : ∀ e ∈ delI kk bb es, e ∈ es := fun e he => (List.mem_filter.mp he).1
      refine .inr (.inl ⟨s, m, f, [], 1, delI kk bb es, ⟨fun pa s2 S => by rw [List.append_nil]; exact S, Nat.le_refl _, Nat.zero_le _⟩, F, ⟨rfl, rfl, rfl, p.filter _, fun e he => b e (sub e he)⟩, fun e he => E.k e (sub e he), z, tooL_le t (List.length_filter_le _ _) (isz_filter _ _), rfl, fun _ _ => rfl⟩)
  | h + 1, n, lo, hi, ps, es, s, i, m, f, us, F, K, h1, h2, hi' => by
    obtain ⟨M, P⟩ := K.mid hb h1 h2
    have eps := P.ep
    have ees := P.ee
    have F1 := F.perm (perm_in (by rw [eps]) rfl)
    have iee : delI kk bb es = M.e1 ++ (delI kk bb M.ec ++ M.e3) := by
      rw [ees, del_app, del_app, del_id hb fun x hx => ⟨(P.b1 x hx).1.rb, by have := (P.b1 x hx).2; omega⟩, del_id hb fun x hx => ⟨(P.b3 x hx).1.rb, by have := (P.b3 x hx).2; omega⟩]
    obtain ⟨path, m0, e0, way, lp, le, Z⟩ := del_go hD hb h F1 P.kc P.k1 P.k2 (by omega)
    have gc : (M.l ++ M.c :: M.r)[cpl (M.l ++ M.c :: M.r) kk bb]? = some M.c := by rw [P.j]; simp
    have way' := Way.node P.d gc way
    rw [P.j] at way'
    refine ⟨(n, M.l.length) :: path, m0, e0, way', by rw [List.length_cons, lp], le, ?_⟩
    have ap : ∀ pa : List (Int × Nat), pa ++ (n, M.l.length) :: path = (pa ++ [(n, M.l.length)]) ++ path := fun pa => by simp
    rcases Z with ⟨nz, Z⟩ | Z | Z
    · refine .inl ⟨by rw [iee]; simp [nz], Mid.fit P nz iee ?_⟩
      obtain ⟨s', m', f', ps', c, F', K', u⟩ := Z
      exact ⟨s', m', f', ps', ⟨fun pa => by rw [ap]; exact c.1 _, c.2⟩, F'.le (by omega), K', u⟩
    · obtain ⟨s1, m1, f1, pc', kd, its, ⟨S, potS, ewS⟩, F2, Kc, ok, ne, nt, eg, u⟩ := Z
      have ndc := (List.nodup_cons.mp F2.ndt).1
      have nz := Kc.ne ne
      obtain ⟨ft, W, k, o⟩ := Kc.put F2 (n := M.c.c) (by simp) (fun z => ndc (by simp [z])) ok nt
      refine .inl ⟨by rw [iee]; simp [nz], Mid.fit P nz iee ⟨_, m1, f1, M.c.c :: pc', ⟨fun pa => ?_, ?_⟩, W.le (by omega), k, fun x hx => ?_⟩⟩
      · rw [ap]
        exact S _ _ (stop_of ok nt ne Kc.kk hD F2 (by omega))
      · have po2 := Pot.write F2 (n := M.c.c) (by simp) (pad (encB kd its))
        rw [xw_enc] at po2
        omega
      · rw [o x fun e => ndc (by rw [← e]; exact List.mem_append.mpr (.inr hx))]
        exact u x hx
    · obtain ⟨s1, m1, f1, kd, ⟨S, potS, ewS⟩, F2, ez, kk', eg, u⟩ := Z
      have po1 := Pot.rel F2 (by omega)
      obtain ⟨F3, o⟩ := F2.rel (by omega)
      have dd : Dec D (gpg (prel M.c.c s1) n) 2 (M.l ++ M.c :: M.r) := by rw [o n (by simp), u n (by simp)]; exact P.d
      have er : (M.l ++ M.c :: M.r).eraseIdx M.l.length = M.l ++ M.r := by
        rw [List.eraseIdx_append_of_length_le (Nat.le_refl _), Nat.sub_self, List.eraseIdx_cons_zero]
      have svE : SvI kd [] s1 := svI_of (D := D) (fun _ z => by simp at z) (by unfold tooL; rcases kk' with rfl | rfl <;> decide) kk' hD F2 (by omega)
      have go : ∀ pa s2, Dl D pa n 2 (M.l ++ M.r) (prel M.c.c s1) s2 → Dl D (pa ++ (n, M.l.length) :: path) m0 1 (delI kk bb e0) s s2 := fun pa s2 X => by
        rw [ap]
        refine S _ _ (.climb svE dd (by simp) ?_)
        rw [er]
        exact X
      have oo : ∀ x ∈ n :: (M.p1 ++ (M.p3 ++ us)), gpg (prel M.c.c s1) x = gpg s x := fun x hx => by rw [o x hx]; exact u x hx
      by_cases z : M.l ++ M.r = []
      · obtain ⟨z1, z2⟩ := List.append_eq_nil_iff.mp z
        have s1' := P.s1
        have s3' := P.s3
        rw [z1] at s1'
        rw [z2] at s3'
        obtain ⟨y1, y2⟩ := s1'
        obtain ⟨y3, y4⟩ := s3'
        refine .inr (.inr ⟨prel M.c.c s1, m1, M.c.c :: f1, 2, ⟨fun pa s2 X => go pa s2 (by rw [z]; exact X), by omega, Nat.zero_le _⟩, ?_, by rw [iee, ez, y2, y4]; rfl, .inr rfl, oo n (by simp), fun x hx => oo x (by simp [hx])⟩)
        rw [y1, y3] at F3
        exact F3.le (by omega)
      · have okc := P.d.ok
        have lt := P.t
        refine .inr (.inl ⟨prel M.c.c s1, m1, M.c.c :: f1, M.p1 ++ M.p3, 2, M.l ++ M.r, ⟨go, by omega, by rw [dd.xw]; unfold ew; rw [if_pos rfl, if_pos rfl]; simp only [List.length_append, List.length_cons]; omega⟩, by rw [List.append_assoc]; exact F3.le (by omega), ?_, fun it hh => okc it ?_, z, ?_, oo n (by simp), fun x hx => oo x (by simp [hx])⟩)
        · rw [iee, ez, List.nil_append]
          refine ⟨rfl, z, ?_⟩
          have g1 := P.k1
          have g2 := P.k2
          have ww : ∀ n lo hi lo' hi' ps es, lo' ≤ lo → hi ≤ hi' → KT D (gpg s) h n lo hi ps es → KT D (gpg s) h n lo' hi' ps es := fun _ _ _ _ _ _ _ a b r => r.wid a b
          have a1 : Seg (KT D (gpg s) h) lo M.l (nxk hi M.r) M.p1 M.e1 := by
            by_cases q : M.l = []
            · have := P.s1
              rw [q] at this ⊢
              exact this
            · rw [if_neg q] at g1
              exact Seg.wid ww (Int.le_refl _) (by omega) P.s1
          have a3 : Seg (KT D (gpg s) h) (if M.l = [] then lo else nxk hi M.r) M.r hi M.p3 M.e3 := by
            split
            · exact Seg.wid ww (by omega) (Int.le_refl _) P.s3
            · exact P.s3
          refine Seg.join (a1.map fun n lo hi p e hp r => KT.congr (fun x hx => oo x (by simp [hp x hx])) r) (a3.map fun n lo hi p e hp r => KT.congr (fun x hx => oo x (by simp [hp x hx])) r)
        · rcases List.mem_append.mp hh with q | q
          · simp [q]
          · simp [q]
        · unfold tooL
          rw [if_pos rfl]
          simp only [List.length_append, List.length_cons] at lt ⊢
          omega
/-- the same, with the pages that go -/
inductive LwL (D : Nat) (r : Int) : List Int → Int → List Itm → PgS → PgS → Prop
  | done {kd : Int} {its : List Itm} {s : PgS} : ¬ (kd = 2 ∧ its.length = 1) → LwL D r [] kd its s s
  | step {l : List Int} {kd : Int} {ch : Itm} {its : List Itm} {s s' : PgS} : Dec D (gpg s ch.c) kd its → (encB kd its).length ≤ 256 → LwL D r l kd its (prel ch.c (pwr r (pad (encB kd its)) s)) s' → LwL D r (ch.c :: l) 2 [ch] s s'
theorem lw_go {D : Nat} (hD : D ≤ 8) {r : Int} : ∀ (h : Nat) {ps : List Int} {es : List Itm} {s : PgS} {i : Nat} {m : Int} {f us : List Int} {kd : Int} {its : List Itm},
    FR i s m f (r :: (ps ++ us)) → Dec D (gpg s r) kd its → ¬ tooL kd its → KTc D (gpg s) h kd its 0 Top ps es → i + 4 * h + 4 ≤ 400000 →
    ∃ mm s' m' f' ps' h', Lw D r mm kd its s s' ∧ FR (i + 4 * h) s' m' f' (ps' ++ us) ∧ KT D (gpg s') h' r 0 Top ps' es ∧ h' ≤ h ∧ (gpg s r ≠ zeros → gpg s' r ≠ zeros) ∧ Pot s' ≤ Pot s ∧ (∀ x ∈ us, gpg s' x = gpg s x) ∧ ∃ l, LwL D r l kd its s s' ∧ l.Nodup ∧ l.length ≤ h ∧ ∀ x ∈ l, x ∈ ps
  | 0, ps, es, s, i, m, f, us, kd, its, F, d, t, K, hi => by
    have K0 := K
    obtain ⟨rfl, rfl, _⟩ := K
    exact ⟨0, s, m, f, [r], 0, .done fun z => absurd z.1 (by decide), F, ⟨1, its, [], rfl, d, t, K0⟩, Nat.le_refl _, id, Nat.le_refl _, fun _ _ => rfl, [], .done fun z => absurd z.1 (by decide), .nil, Nat.le_refl _, fun x hx => by simp at hx⟩
  | h + 1, ps, es, s, i, m, f, us, kd, cs, F, d, t, K, hi => by
    have K0 := K
    obtain ⟨rfl, nc, sg⟩ := K
    by_cases l1 : cs.length = 1
    · obtain ⟨ch, rfl⟩ := List.length_eq_one_iff.mp l1
      obtain ⟨p1, p2, e1, e2, rfl, rfl, ne, kc, rfl, rfl⟩ := sg
      obtain ⟨kd', its', pc, rfl, d', t', c'⟩ := kc
      rw [List.append_nil] at *
      have nd := F.ndt
      have nr := (List.nodup_cons.mp nd).1
      have nch := (List.nodup_cons.mp (List.nodup_cons.mp nd).2).1
      have rc : r ≠ ch.c := fun z => nr (by rw [z]; simp)
      obtain ⟨ft, W, k, o⟩ := c'.put F (n := r) (by simp) (fun z => nr (by simp [z])) d'.ok t'
      have W2 := W.perm (t' := ch.c :: (r :: (pc ++ us))) (List.Perm.swap ch.c r _)
      obtain ⟨F3, o3⟩ := W2.rel (by omega)
      have ed : gpg (prel ch.c (pwr r (pad (encB kd' its')) s)) r = pad (encB kd' its') := by rw [o3 r (by simp), gpg_eq]
      have d3 : Dec D (gpg (prel ch.c (pwr r (pad (encB kd' its')) s)) r) kd' its' := .inl ⟨ed, d'.kk, d'.ok, ft⟩
      have k3 := c'.congr (v' := gpg (prel ch.c (pwr r (pad (encB kd' its')) s))) fun x hx => by
        rw [o3 x (by simp [hx]), o x fun e => nr (by rw [← e]; simp [hx])]
      obtain ⟨mm, s', m', f', ps2, h', lw, F4, K4, hh, nz, pot, u, l, lwl, lnd, lll, lps⟩ := lw_go hD h F3 d3 t' k3 (by omega)
      have dl := F.dl
      exact ⟨mm + 1, s', m', f', ps2, h', .step d' (by omega) (W.z 0) lw, F4.le (by omega), K4, by omega, fun _ => nz (by rw [ed]; exact enc_nz (by rcases d'.kk with e | e <;> rw [e] <;> decide)), by
        have po1 := Pot.write F (n := r) (by simp) (pad (encB kd' its'))
        rw [xw_enc] at po1
        have po2 := Pot.rel W2 (by omega)
        rw [o ch.c fun z => rc z.symm, d'.xw] at po2
        omega, fun x hx => by rw [u x hx, o3 x (by simp [hx]), o x fun e => nr (by rw [← e]; simp [hx])], ch.c :: l, .step d' ft lwl, List.nodup_cons.mpr ⟨fun z => nch (by have := lps _ z; simp [this]), lnd⟩, by rw [List.length_cons]; omega, fun x hx => by
        rcases List.mem_cons.mp hx with rfl | hx
        · simp
        · have := lps x hx; simp [this]⟩
    · exact ⟨0, s, m, f, r :: ps, h + 1, .done fun z => l1 z.2, F.le (by omega), ⟨2, cs, ps, rfl, d, t, K0⟩, Nat.le_refl _, id, Nat.le_refl _, fun _ _ => rfl, [], .done fun z => l1 z.2, .nil, Nat.zero_le _, fun x hx => by simp at hx⟩
theorem del_top {D : Nat} (hD : D ≤ 8) {kk bb : Int} (ha : 0 ≤ kk ∧ kk < 4294967296) (hb : Rb bb) {r : Int} {i : Nat} {s : PgS} {m : Int} {f us : List Int} {h : Nat} {ps : List Int} {es : List Itm} (S : KS D r i s m f us h ps es) (hi : i + 8 * h + 16 ≤ 400000) :
    ∃ path m0 e0 s1 mm kd its s' m' f' ps' h', Way D (gpg s) kk bb r path m0 e0 ∧ path.length = h ∧ e0.length ≤ 21 ∧ Dl D path m0 1 (delI kk bb e0) s s1 ∧ Dec D (gpg s1 r) kd its ∧ Lw D r mm kd its s1 s' ∧ KS D r (i + 8 * h + 16) s' m' f' us h' ps' (delI kk bb es) ∧ h' ≤ h ∧ gpg s' r ≠ zeros ∧ Pot s' ≤ Pot s ∧ (∀ x ∈ us, gpg s' x = gpg s x) ∧ ∃ l j m1 f1 tq, LwL D r l kd its s1 s' ∧ FR j s1 m1 f1 tq ∧ l.Nodup ∧ r ∉ l ∧ r ∈ tq ∧ l.length ≤ h ∧ ∀ x ∈ l, x ∈ tq := by
  have b1 : 0 ≤ kp kk bb := by unfold kp; have := hb.1; omega
  have b2 : kp kk bb < Top := by unfold kp Top; have := hb.2; omega
  obtain ⟨path, m0, e0, way, lp, le, Z⟩ := del_go hD hb h S.F S.K b1 b2 (by omega)
  have sm' : ∀ e ∈ delI kk bb es, SmI e := fun e he => S.sm e (List.mem_filter.mp he).1
  rcases Z with ⟨nz, s1, m1, f1, p1, ⟨c, potC⟩, F1, K1, u⟩ | ⟨s0, m0', f0, pc, kd, its, ⟨C, potC, ewC⟩, F1, Kc, ok, ne, nt, eg, u⟩ | ⟨s0, m0', f0, kd, ⟨C, potC, ewC⟩, F1, ez, kk', eg, u⟩
  · have zz := K1.nz nz
    obtain ⟨kd, its, pc, rfl, d, t, Kc⟩ := K1
    obtain ⟨mm, s', m', f', ps', h', lw, F2, K2, hh, nz2, pot2, u2, l, lwl, lnd, lll, lps⟩ := lw_go hD h F1 d t Kc (by omega)
    have nr1 := (List.nodup_cons.mp F1.ndt).1
    exact ⟨path, m0, e0, s1, mm, kd, its, s', m', f', ps', h', way, lp, le, c [], d, lw, ⟨F2.le (by omega), K2, sm'⟩, hh, nz2 zz, by omega, fun x hx => by rw [u2 x hx, u x hx], l, _, _, _, _, lwl, F1, lnd, fun z => nr1 (by have := lps _ z; simp [this]), by simp, lll, fun x hx => by have := lps x hx; simp [this]⟩
  · have nd1 := (List.nodup_cons.mp F1.ndt).1
    obtain ⟨ft, W, k, o⟩ := Kc.put F1 (n := r) (by simp) (fun z => nd1 (by simp [z])) ok nt
    obtain ⟨kd2, its2, ps2, e2, d2, t2, Kc2⟩ := k
    have er : gpg (pwr r (pad (encB kd its)) s0) r = pad (encB kd its) := gpg_eq _ _ _
    have zz : gpg (pwr r (pad (encB kd its)) s0) r ≠ zeros := by rw [er]; exact enc_nz (by rcases Kc.kk with e | e <;> rw [e] <;> decide)
    have d3 : Dec D (gpg (pwr r (pad (encB kd its)) s0) r) kd its := .inl ⟨er, Kc.kk, ok, ft⟩
    have k3 := Kc.congr (v' := gpg (pwr r (pad (encB kd its)) s0)) fun x hx => o x fun e => nd1 (by rw [← e]; simp [hx])
    obtain ⟨mm, s', m', f', ps', h', lw, F2, K2, hh, nz2, pot2, u2, l, lwl, lnd, lll, lps⟩ := lw_go hD h W d3 nt k3 (by omega)
    exact ⟨path, m0, e0, _, mm, kd, its, s', m', f', ps', h', way, lp, le, C [] _ (stop_of ok nt ne Kc.kk hD F1 (by omega)), d3, lw, ⟨F2.le (by omega), K2, sm'⟩, hh, nz2 zz, by
      have po1 := Pot.write F1 (n := r) (by simp) (pad (encB kd its))
      rw [xw_enc] at po1
      omega, fun x hx => by rw [u2 x hx, o x fun e => nd1 (by rw [← e]; simp [hx]), u x hx], l, _, _, _, _, lwl, W, lnd, fun z => nd1 (by have := lps _ z; simp [this]), by simp, lll, fun x hx => by have := lps x hx; simp [this]⟩
  · have nd1 := (List.nodup_cons.mp F1.ndt).1
    have svE : SvI kd [] s0 := svI_of (D := D) (fun _ z => by simp at z) (by unfold tooL; rcases kk' with rfl | rfl <;> decide) kk' hD F1 (by omega)
    have st := Dl.stop (D := D) (path := []) (n := r) (s := s0) (fun _ => rfl) svE
    rw [if_pos rfl] at st
    have st := st (Nat.le_of_ble_eq_true rfl)
    have lz : (encB 1 []).length ≤ 256 := Nat.le_of_ble_eq_true rfl
    have er : gpg (pwr r (pad (encB 1 [])) s0) r = pad (encB 1 []) := gpg_eq _ _ _
    have d3 : Dec D (gpg (pwr r (pad (encB 1 [])) s0) r) 1 [] := .inl ⟨er, .inl rfl, fun _ z => by simp at z, lz⟩
    have W := F1.write (n := r) (by simp) (pad_len lz)
    refine ⟨path, m0, e0, _, 0, 1, [], _, m0', f0, [r], 0, way, lp, le, C [] _ st, d3, .done fun z => absurd z.1 (by decide), ⟨W.le (by omega), ⟨1, [], [], rfl, d3, by unfold tooL; decide, rfl, rfl, ez, .nil, fun e he => by simp at he⟩, sm'⟩, Nat.zero_le _, by rw [er]; exact enc_nz (by decide), by
      have po1 := Pot.write F1 (n := r) (by simp) (pad (encB 1 []))
      rw [xw_enc, show ew 1 [] = 0 from rfl] at po1
      omega, fun x hx => by rw [gpg_ne s0 _ fun e => nd1 (by rw [← e]; exact hx), u x hx], [], _, _, _, _, .done fun z => absurd z.1 (by decide), W, .nil, by simp, by simp, Nat.zero_le _, fun x hx => by simp at hx⟩
/-! ### an end is replaced -/
theorem rep_ky (kk bb e : Int) (x : Itm) : ky (repI kk bb e x) = ky x := by unfold repI; split <;> rfl
theorem rep_ln (kk bb e : Int) (x : Itm) : (encI (repI kk bb e x)).length = (encI x).length := by
  unfold repI; split
  · rw [encI_len, encI_len]
  · rfl
theorem rep_ok {D : Nat} {kk bb e : Int} (h0 : 0 ≤ e) (h1 : e < 256 ^ 4) {x : Itm} (h : ItOk D 1 x) : ItOk D 1 (repI kk bb e x) := by
  unfold repI; split
  · exact ⟨h.a0, h.a1, h.b0, h.b1, h0, h1, h.k⟩
  · exact h
theorem rep_id {kk bb e : Int} (hb : Rb bb) {x : List Itm} (h : ∀ e ∈ x, Rb e.b ∧ ky e ≠ kp kk bb) : x.map (repI kk bb e) = x := by
  refine (List.map_congr_left fun y hy => ?_).trans (List.map_id _)
  obtain ⟨_, h2⟩ := h y hy
  unfold repI
  rw [if_neg fun z => h2 (by unfold ky; rw [z.1, z.2])]
  rfl
theorem rep_isz (kk bb e : Int) (l : List Itm) : isz (l.map (repI kk bb e)) = isz l := by
  unfold isz
  rw [List.map_map]
  exact List.map_congr_left fun x _ => rep_ln kk bb e x
theorem rep_go {D : Nat} {kk bb e : Int} (hb : Rb bb) (h0 : 0 ≤ e) (h1 : e < 256 ^ 4) : ∀ (h : Nat) {n lo hi : Int} {ps : List Int} {es : List Itm} {v : Int → List Int},
    ps.Nodup → KT D v h n lo hi ps es → lo ≤ kp kk bb → kp kk bb < hi →
    ∃ path m0 e0, Way D v kk bb n path m0 e0 ∧ path.length = h ∧ e0.length ≤ 21 ∧ m0 ∈ ps ∧ (encB 1 (e0.map (repI kk bb e))).length ≤ 256 ∧ (∀ x ∈ e0, ItOk D 1 x) ∧
      KT D (vput v m0 (pad (encB 1 (e0.map (repI kk bb e))))) h n lo hi ps (es.map (repI kk bb e))
  | 0, n, lo, hi, ps, es, v, nd, K, a1, a2 => by
    have E := K.ent
    obtain ⟨kd, its, ps', rfl, d, t, rfl, rfl, rfl, p, b⟩ := K
    have ft := d.fit (.inl rfl)
    rw [encB_sz] at ft
    have ft' : (encB 1 (es.map (repI kk bb e))).length ≤ 256 := by rw [encB_sz, rep_isz]; exact ft
    refine ⟨[], n, es, .leaf d, rfl, d.lz, by simp, ft', E.k, ⟨1, es.map (repI kk bb e), [], rfl, ?_, ?_, rfl, rfl, rfl, ?_, fun x hx => ?_⟩⟩
    · rw [vput_eq]
      refine .inl ⟨rfl, .inl rfl, fun x hx => ?_, ft'⟩
      obtain ⟨y, hy, rfl⟩ := List.mem_map.mp hx
      exact rep_ok h0 h1 (E.k y hy)
    · unfold tooL; rw [if_neg (by decide)]; omega
    · rw [List.pairwise_map]
      exact p.imp fun q => by rw [rep_ky, rep_ky]; exact q
    · obtain ⟨y, hy, rfl⟩ := List.mem_map.mp hx
      rw [rep_ky]
      exact b y hy
  | h + 1, n, lo, hi, ps, es, v, nd, K, a1, a2 => by
    obtain ⟨M, P⟩ := K.mid hb a1 a2
    have eps := P.ep
    have ees := P.ee
    rw [eps] at nd
    have iee : es.map (repI kk bb e) = M.e1 ++ (M.ec.map (repI kk bb e) ++ M.e3) := by
      rw [ees, List.map_append, List.map_append, rep_id hb fun x hx => ⟨(P.b1 x hx).1.rb, by have := (P.b1 x hx).2; omega⟩, rep_id hb fun x hx => ⟨(P.b3 x hx).1.rb, by have := (P.b3 x hx).2; omega⟩]
    have nd2 := (List.nodup_cons.mp nd)
    have nd3 := List.nodup_append.mp nd2.2
    have nd4 := List.nodup_append.mp nd3.2.1
    obtain ⟨path, m0, e0, way, lp, le, hm, ft, ok, K'⟩ := rep_go hb h0 h1 h nd4.1 P.kc P.k1 P.k2
    have gc : (M.l ++ M.c :: M.r)[cpl (M.l ++ M.c :: M.r) kk bb]? = some M.c := by rw [P.j]; simp
    have way' := Way.node P.d gc way
    have oo : ∀ x ∈ n :: (M.p1 ++ M.p3), vput v m0 (pad (encB 1 (e0.map (repI kk bb e)))) x = v x := fun x hx => vput_ne _ _ fun z => by
      subst z
      rcases List.mem_cons.mp hx with z | hx
      · exact nd2.1 (by rw [← z]; simp [hm])
      · rcases List.mem_append.mp hx with q | q
        · exact nd3.2.2 x q x (by simp [hm]) rfl
        · exact nd4.2.2 x hm x q rfl
    refine ⟨_, m0, e0, way', by rw [List.length_cons, lp], le, by rw [eps]; simp [hm], ft, ok, ⟨2, M.l ++ M.c :: M.r, M.p1 ++ (M.pc ++ M.p3), eps, by rw [oo n (by simp)]; exact P.d, by unfold tooL; rw [if_pos rfl]; have := P.t; omega, rfl, by simp, ?_⟩⟩
    rw [iee]
    refine Seg.join (P.s1.map fun n lo hi p e hp r => KT.congr (fun x hx => oo x (by simp [hp x hx])) r) ⟨M.pc, M.p3, _, M.e3, rfl, rfl, fun z => P.nc (List.map_eq_nil_iff.mp z), K', P.s3.map fun n lo hi p e hp r => KT.congr (fun x hx => oo x (by simp [hp x hx])) r⟩
theorem rep_top {D : Nat} {kk bb e : Int} (ha : 0 ≤ kk ∧ kk < 4294967296) (hb : Rb bb) (h0 : 0 ≤ e) (h1 : e < 256 ^ 4) {r : Int} {i : Nat} {s : PgS} {m : Int} {f us : List Int} {h : Nat} {ps : List Int} {es : List Itm} (S : KS D r i s m f us h ps es) :
    ∃ path m0 e0, Way D (gpg s) kk bb r path m0 e0 ∧ path.length = h ∧ e0.length ≤ 21 ∧ m0 ∈ ps ∧ (encB 1 (e0.map (repI kk bb e))).length ≤ 256 ∧ (∀ x ∈ e0, ItOk D 1 x) ∧ KS D r (i + 1) (pwr m0 (pad (encB 1 (e0.map (repI kk bb e)))) s) m f us h ps (es.map (repI kk bb e)) ∧ (gpg s r ≠ zeros → gpg (pwr m0 (pad (encB 1 (e0.map (repI kk bb e)))) s) r ≠ zeros) ∧ Pot (pwr m0 (pad (encB 1 (e0.map (repI kk bb e)))) s) ≤ Pot s ∧ ∀ x ∈ us, gpg (pwr m0 (pad (encB 1 (e0.map (repI kk bb e)))) s) x = gpg s x := by
  have b1 : 0 ≤ kp kk bb := by unfold kp; have := hb.1; omega
  have b2 : kp kk bb < Top := by unfold kp Top; have := hb.2; omega
  have nd := S.F.ndt
  obtain ⟨path, m0, e0, way, lp, le, hm, ft, ok, K⟩ := rep_go hb h0 h1 h (List.nodup_append.mp nd).1 S.K b1 b2
  refine ⟨path, m0, e0, way, lp, le, hm, ft, ok, ⟨S.F.write (by simp [hm]) (pad_len ft), by rw [gpg_pwr]; exact K, fun x hx => ?_⟩, fun nz => ?_, ?_, fun x hx => gpg_ne s _ fun z => nin nd hm (by rw [← z]; exact hx)⟩
  · obtain ⟨y, hy, rfl⟩ := List.mem_map.mp hx
    unfold SmI
    rw [rep_ln]
    exact S.sm y hy
  · by_cases q : r = m0
    · rw [← q, gpg_eq]; exact enc_nz (by decide)
    · rw [gpg_ne s _ q]; exact nz
  · have po1 := Pot.write S.F (n := m0) (by simp [hm]) (pad (encB 1 (e0.map (repI kk bb e))))
    rw [xw_enc, show ew 1 (e0.map (repI kk bb e)) = 0 from rfl] at po1
    omega
/-! ### each page of a tree is written as its items are -/
def StrI (D : Nat) (v : List Int) (kd : Int) (its : List Itm) : Prop := v = pad (encB kd its) ∧ (kd = 1 ∨ kd = 2) ∧ (∀ it ∈ its, ItOk D kd it) ∧ (encB kd its).length ≤ 256
theorem Dec.str {D : Nat} {v : List Int} {kd : Int} {its : List Itm} (d : Dec D v kd its) (n : v ≠ zeros ∨ its ≠ []) : StrI D v kd its := ⟨d.strict n, d.kk, d.ok, d.fit d.kk⟩
theorem StrI.dec {D : Nat} {v : List Int} {kd : Int} {its : List Itm} (d : StrI D v kd its) : Dec D v kd its := .inl d
theorem Seg.all {R : KR} {G : Int → Prop} : ∀ {cs : List Itm} {lo hi : Int} {ps : List Int} {es : List Itm}, (∀ n lo hi p e, e ≠ [] → R n lo hi p e → ∀ x ∈ p, G x) → Seg R lo cs hi ps es → ∀ x ∈ ps, G x
  | [], _, _, _, _, _, h, x, hx => by obtain ⟨rfl, _⟩ := h; simp at hx
  | c :: cs, _, _, _, _, k, h, x, hx => by
    obtain ⟨p1, p2, e1, e2, rfl, rfl, ne, q, s⟩ := h
    rcases List.mem_append.mp hx with z | z
    · exact k _ _ _ _ _ ne q x z
    · exact Seg.all k s x z
theorem KTc.pages {D : Nat} {v : Int → List Int} : ∀ {h : Nat} {kd : Int} {its : List Itm} {lo hi : Int} {ps : List Int} {es : List Itm}, KTc D v h kd its lo hi ps es → ∀ x ∈ ps, ∃ kd its, StrI D (v x) kd its ∧ ¬ tooL kd its ∧ its ≠ []
  | 0, _, _, _, _, _, _, c, x, hx => by obtain ⟨_, rfl, _⟩ := c; simp at hx
  | h + 1, _, _, _, _, ps, _, c, x, hx => by
    refine Seg.all (G := fun x => ∃ kd its, StrI D (v x) kd its ∧ ¬ tooL kd its ∧ its ≠ []) (fun n lo hi p e ne r x hx => ?_) c.2.2 x hx
    obtain ⟨kd, its, ps', rfl, d, t, c⟩ := r
    have nz := c.nil ne
    rcases List.mem_cons.mp hx with rfl | hx
    · exact ⟨kd, its, d.str (.inr nz), t, nz⟩
    · exact KTc.pages c x hx
theorem KS.str {D : Nat} {r : Int} {i : Nat} {s : PgS} {m : Int} {f us : List Int} {h : Nat} {ps : List Int} {es : List Itm} (S : KS D r i s m f us h ps es) (nz : gpg s r ≠ zeros) {x : Int} (hx : x ∈ ps) : ∃ kd its, StrI D (gpg s x) kd its ∧ ¬ tooL kd its := by
  obtain ⟨kd, its, ps', rfl, d, t, c⟩ := S.K
  rcases List.mem_cons.mp hx with rfl | hx
  · exact ⟨kd, its, d.str (.inl nz), t⟩
  · obtain ⟨kd, its, a, b, _⟩ := c.pages x hx
    exact ⟨kd, its, a, b⟩
theorem KS.root {D : Nat} {r : Int} {i : Nat} {s : PgS} {m : Int} {f us : List Int} {h : Nat} {ps : List Int} {es : List Itm} (S : KS D r i s m f us h ps es) : r ∈ ps := by
  obtain ⟨kd, its, ps', rfl, _⟩ := S.K
  simp
/-! ### the pages of a tree in order, and its entries in a range -/
inductive PWk (D : Nat) (v : Int → List Int) : List Int → List Int → Prop
  | nil : PWk D v [] []
  | leaf {n : Int} {st out : List Int} {its : List Itm} : Dec D (v n) 1 its → PWk D v st out → PWk D v (n :: st) (n :: out)
  | node {n : Int} {st out : List Int} {its : List Itm} : Dec D (v n) 2 its → PWk D v (its.map (·.c) ++ st) out → PWk D v (n :: st) (n :: out)
theorem PWk.len {D : Nat} {v : Int → List Int} {st out : List Int} (h : PWk D v st out) : st.length ≤ out.length := by
  induction h with
  | nil => exact Nat.le_refl _
  | leaf _ _ ih => rw [List.length_cons, List.length_cons]; omega
  | node _ _ ih => rw [List.length_append] at ih; rw [List.length_cons, List.length_cons]; omega
theorem Seg.pwk {D : Nat} {v : Int → List Int} {R : KR} (hR : ∀ n lo hi ps es st out, R n lo hi ps es → PWk D v st out → PWk D v (n :: st) (ps ++ out)) : ∀ {cs : List Itm} {lo hi : Int} {ps : List Int} {es : List Itm} {st out : List Int}, Seg R lo cs hi ps es → PWk D v st out → PWk D v (cs.map (·.c) ++ st) (ps ++ out)
  | [], _, _, _, _, _, _, h, g => by obtain ⟨rfl, _⟩ := h; exact g
  | c :: cs, _, _, _, _, _, _, h, g => by
    obtain ⟨p1, p2, e1, e2, rfl, rfl, ne, q, s⟩ := h
    rw [List.append_assoc]
    exact hR _ _ _ _ _ _ _ q (Seg.pwk hR s g)
theorem KT.pwk {D : Nat} {v : Int → List Int} : ∀ (h : Nat) {n lo hi : Int} {ps : List Int} {es : List Itm} {st out : List Int}, KT D v h n lo hi ps es → PWk D v st out → PWk D v (n :: st) (ps ++ out)
  | 0, _, _, _, _, _, _, _, K, g => by
    obtain ⟨kd, its, ps', rfl, d, t, rfl, rfl, _⟩ := K
    exact .leaf d g
  | h + 1, _, _, _, _, _, _, _, K, g => by
    obtain ⟨kd, its, ps', rfl, d, t, rfl, ne, s⟩ := K
    exact .node d (Seg.pwk (fun _ _ _ _ _ _ _ r g => KT.pwk h r g) s g)
def nxok (lo : Int) : List Itm → Bool
  | [] => true
  | c :: _ => decide (lo ≤ c.a)
def visR (lo hi : Int) : Bool → List Itm → List Int
  | _, [] => []
  | fi, c :: r => (if (fi || decide (c.a ≤ hi)) && nxok lo r then [c.c] else []) ++ visR lo hi false r
def inR (lo hi : Int) (x : Itm) : Bool := decide (lo ≤ x.a) && decide (x.a ≤ hi)
inductive EWk (D : Nat) (v : Int → List Int) (lo hi : Int) : List Int → List Itm → Nat → Prop
  | nil : EWk D v lo hi [] [] 0
  | leaf {n : Int} {st : List Int} {its out : List Itm} {m : Nat} : Dec D (v n) 1 its → EWk D v lo hi st out m → EWk D v lo hi (n :: st) (its.filter (inR lo hi) ++ out) (m + 1)
  | node {n : Int} {st : List Int} {its out : List Itm} {m : Nat} : Dec D (v n) 2 its → EWk D v lo hi (visR lo hi true its ++ st) out m → EWk D v lo hi (n :: st) out (m + 1)
theorem EWk.len {D : Nat} {v : Int → List Int} {lo hi : Int} {st : List Int} {out : List Itm} {m : Nat} (h : EWk D v lo hi st out m) : st.length ≤ m ∧ out.length ≤ 21 * m := by
  induction h with
  | nil => exact ⟨Nat.le_refl _, Nat.le_refl _⟩
  | leaf d _ ih =>
    have := d.lz
    rename_i n st its out m _
    have := List.length_filter_le (inR lo hi) its
    rw [List.length_cons, List.length_append]; omega
  | node d _ ih =>
    have := d.lz
    rw [List.length_append] at ih
    rw [List.length_cons]; omega
theorem ky_a {x y : Itm} (hx : Rb x.b) (hy : Rb y.b) (h : ky x ≤ ky y) : x.a ≤ y.a := by
  unfold ky kp Rb at *; omega
theorem inR_none {lo hi : Int} {es : List Itm} (h : ∀ x ∈ es, x.a < lo ∨ hi < x.a) : es.filter (inR lo hi) = [] := by
  rw [List.filter_eq_nil_iff]
  intro x hx
  unfold inR
  have := h x hx
  rw [Bool.and_eq_true, decide_eq_true_eq, decide_eq_true_eq]
  omega
theorem Seg.ewk {D : Nat} {v : Int → List Int} {lo hi : Int} {R : KR} (hE : ∀ n a b ps es, R n a b ps es → Ent D a b es)
    (hR : ∀ n a b ps es st out m, R n a b ps es → EWk D v lo hi st out m → ∃ m', EWk D v lo hi (n :: st) (es.filter (inR lo hi) ++ out) m' ∧ m' ≤ ps.length + m) : ∀ {cs : List Itm} {fi : Bool} {a b : Int} {ps : List Int} {es : List Itm} {st : List Int} {out : List Itm} {m : Nat},
      Seg R a cs b ps es → (∀ c ∈ cs, Rb c.b) → (fi = false → ∃ c r, cs = c :: r ∧ a = ky c ∨ cs = []) → EWk D v lo hi st out m → ∃ m', EWk D v lo hi (visR lo hi fi cs ++ st) (es.filter (inR lo hi) ++ out) m' ∧ m' ≤ ps.length + m
  | [], _, _, _, _, _, _, _, _, h, _, _, g => by
    obtain ⟨rfl, rfl⟩ := h
    exact ⟨_, g, by simp⟩
  | c :: cs, fi, a, b, _, _, st, out, m, h, hr, hf, g => by
    obtain ⟨p1, p2, e1, e2, rfl, rfl, ne, q, s⟩ := h
    have hr' : ∀ x ∈ cs, Rb x.b := fun x hx => hr x (List.mem_cons_of_mem _ hx)
    have E1 := hE _ _ _ _ _ q
    obtain ⟨m1, g1, l1⟩ := Seg.ewk (fi := false) hE hR s hr' (fun _ => by
      cases cs with
      | nil => exact ⟨c, [], .inr rfl⟩
      | cons c' r => exact ⟨c', r, .inl ⟨rfl, rfl⟩⟩) g
    rw [List.filter_append, List.append_assoc]
    show ∃ m', EWk D v lo hi (((if (fi || decide (c.a ≤ hi)) && nxok lo cs then [c.c] else []) ++ visR lo hi false cs) ++ st) _ m' ∧ _
    by_cases z : ((fi || decide (c.a ≤ hi)) && nxok lo cs) = true
    · rw [if_pos z]
      obtain ⟨m2, g2, l2⟩ := hR _ _ _ _ _ _ _ _ q g1
      exact ⟨m2, g2, by rw [List.length_append]; omega⟩
    · rw [if_neg z]
      refine ⟨m1, ?_, by rw [List.length_append]; omega⟩
      rw [inR_none, List.nil_append, List.nil_append]
      · exact g1
      · intro x hx
        have bx := E1.b x hx
        have kx := (E1.k x hx).rb
        rw [Bool.and_eq_true] at z
        by_cases y : (fi || decide (c.a ≤ hi)) = true
        · have w : ¬ (nxok lo cs = true) := fun w => z ⟨y, w⟩
          cases cs with
          | nil => exact absurd rfl w
          | cons c' r =>
            have w : ¬ (lo ≤ c'.a) := fun w' => w (decide_eq_true w')
            have b2 : ky x < ky c' := bx.2
            have := ky_a kx (hr' c' (by simp)) (Int.le_of_lt b2)
            left; omega
        · rw [Bool.or_eq_true] at y
          have f0 : fi = false := by
            cases fi with
            | true => exact absurd (.inl rfl) y
            | false => rfl
          have w : ¬ (c.a ≤ hi) := fun w' => y (.inr (decide_eq_true w'))
          obtain ⟨c1, r1, ⟨e1', e2'⟩ | e1'⟩ := hf f0
          · cases e1'
            have b1 : ky c ≤ ky x := by rw [← e2']; exact bx.1
            have := ky_a (hr c (by simp)) kx b1
            right; omega
          · cases e1'
theorem KT.ewk {D : Nat} {v : Int → List Int} {lo hi : Int} : ∀ (h : Nat) {n a b : Int} {ps : List Int} {es : List Itm} {st : List Int} {out : List Itm} {m : Nat}, KT D v h n a b ps es → EWk D v lo hi st out m → ∃ m', EWk D v lo hi (n :: st) (es.filter (inR lo hi) ++ out) m' ∧ m' ≤ ps.length + m
  | 0, _, _, _, _, _, _, _, m, K, g => by
    obtain ⟨kd, its, ps', rfl, d, t, rfl, rfl, rfl, _⟩ := K
    exact ⟨_, .leaf d g, by show m + 1 ≤ 1 + m; omega⟩
  | h + 1, _, _, _, _, _, _, _, m, K, g => by
    obtain ⟨kd, its, ps', rfl, d, t, rfl, ne, s⟩ := K
    obtain ⟨m', g', l⟩ := Seg.ewk (fi := true) (D := D) KT.pos (fun _ _ _ _ _ _ _ _ r g => KT.ewk h r g) s (fun c hc => (d.ok c hc).rb) (fun z => by cases z) g
    exact ⟨_, .node d g', by rw [List.length_cons]; omega⟩
theorem KS.pwk {D : Nat} {r : Int} {i : Nat} {s : PgS} {m : Int} {f us : List Int} {h : Nat} {ps : List Int} {es : List Itm} (S : KS D r i s m f us h ps es) : PWk D (gpg s) [r] ps := by
  have := S.K.pwk h (.nil)
  rw [List.append_nil] at this
  exact this
theorem KS.ewk {D : Nat} {r : Int} {i : Nat} {s : PgS} {m : Int} {f us : List Int} {h : Nat} {ps : List Int} {es : List Itm} (lo hi : Int) (S : KS D r i s m f us h ps es) : ∃ m', EWk D (gpg s) lo hi [r] (es.filter (inR lo hi)) m' ∧ m' ≤ ps.length := by
  obtain ⟨m', g, l⟩ := S.K.ewk (lo := lo) (hi := hi) h (.nil)
  rw [List.append_nil] at g
  exact ⟨m', g, l⟩
/-! ### making a key tree; its pages; its entries in a range -/
def dnl (n : Nat) : List V := (List.range n).map fun i => V.int ((n : Int) - 1 + (i : Nat) * (-1))
theorem dnl_len {n : Nat} : (dnl n).length = n := by unfold dnl; simp
theorem dnl_at {n i : Nat} {x : V} (h : (dnl n)[i]? = some x) : i < n ∧ x = .int ((n - 1 - i : Nat) : Int) := by
  unfold dnl at h
  rw [List.getElem?_map] at h
  by_cases hi : i < n
  · rw [List.getElem?_range hi] at h
    refine ⟨hi, ?_⟩
    rw [← Option.some.inj h]
    show V.int ((n : Int) - 1 + (i : Int) * (-1)) = _
    rw [show (n : Int) - 1 + (i : Int) * (-1) = ((n - 1 - i : Nat) : Int) by omega]
  · rw [List.getElem?_eq_none (by simpa using hi)] at h
    cases h
theorem Wk.down {n : Nat} : Wk (Itc ((n : Int) - 1) (-1) n) (fun _ => True) (dnl n) where
  go := fun i H h _ => by rw [dnl_len] at h; exact h
  yld := fun i H x H' h _ y => by
    rw [dnl_len] at h
    refine ⟨y.1.symm, ?_⟩
    unfold dnl
    rw [List.getElem?_map, List.getElem?_range h, y.2]; rfl
  stop := fun H _ => by show n ≤ _; rw [dnl_len]; exact Nat.le_refl _
def rRv (x : V) (H : Hp) (R : It → Hp → Prop) : Prop := ∃ n : Int, x = .int n ∧ (-(2 ^ 62) ≤ (0 : Int) ∧ (0 : Int) < 2 ^ 62 ∧ -(2 ^ 62) ≤ n ∧ n < 2 ^ 62 ∧ R (Itc (0 + (((n - 0).toNat : Nat) : Int) - 1) (-1) (n - 0).toNat) H)
theorem x_irv {ta : TE} {σ : L2.St} {H : Hp} {R : It → Hp → Prop} (h : ta σ H fun x H1 => rRv x H1 R) : (L2.iRevR (tRg1 ta)) σ H R := h
theorem x_rv {H : Hp} {R : It → Hp → Prop} {n : Nat} (hn : n ≤ 1000000) (q : R (Itc ((n : Int) - 1) (-1) n) H) : rRv (.int (n : Nat)) H R := by
  refine ⟨_, rfl, by omega, by omega, by omega, by omega, ?_⟩
  rw [Int.sub_zero, Int.toNat_natCast, Int.zero_add]
  exact q
theorem pr_rev {α β : Type} {R : α → β → Prop} : ∀ {l : List α} {m : List β}, Paired R l m → Paired R l.reverse m.reverse
  | _, _, .nil => .nil
  | _, _, .cons r t => by rw [List.reverse_cons, List.reverse_cons]; exact pr_app (pr_rev t) (.cons r .nil)
section
variable {P : Program} {w : World} {K : PySem.W.Frag} {mg : Str → Option Value} {base : Heap} {c : Cl}
def sp_KeyTree_init (c : Cl) : Sp := fun vs H Q _ => ∃ t p dx r D, vs = [.ref t, .ref p, .int r, .int D] ∧ H t = some (.ins c.KeyTree dx []) ∧ ∀ H', KtA c H' t p r D → Kp (F1 t) H H' → Q .non H'
theorem mk_KeyTree (T : Txt K mg c) : GC P w K mg base CX0 1 "KeyTree" c.KeyTree (sp_KeyTree_init c) := by
  obtain ⟨f, fd, F, gf, gi⟩ := T.f_KeyTree___init__
  have tc := T.cl_KeyTree; have t1 := T.n_KeyTree_pager; have t2 := T.n_KeyTree_root; have t3 := T.n_KeyTree_dimensions
  refine ⟨f, fd, ["self", "pager", "root", "dimensions"], F.ok sc_KeyTree___init__ ?_ (fun cdv A outer s H vs Q E hr h => ?_), ⟨T.mk_KeyTree.1, gf, gi, T.mk_KeyTree.2⟩, T.mg_KeyTree, (F.binds (ps := ["self", "pager", "root", "dimensions"]) fun _ _ _ _ _ _ us hl => match us, hl with | [_, _, _, _], _ => rfl)⟩
  · rintro vs H Q E ⟨_, _, _, _, _, rfl, _⟩
    rfl
  · obtain ⟨t, p, dx, r, D, rfl, ht, k⟩ := h
    refine ⟨_, (pss_cons (ps_fld (pv 0) (pv 1) rfl)
      (pss_cons (ps_fld (pv 0) (pv 2) rfl)
      (pss_one (ps_fld (pv 0) (pv 3) rfl)))), ?_⟩
    walk_at "cx"
    walk_at "rd"
    intro H1 p1 k1
    walk_at "rd"
    intro H2 p2 k2
    walk_at "rd"
    intro H3 p3 k3
    walk_at "rd"
    exact k H3 ⟨dx, p3⟩ ((k1.trans k2 fun _ z => .inl z).trans k3 fun _ z => .inl z)
def sp_KeyTree_pages (c : Cl) : Sp := fun vs H Q _ => ∃ (kt p q : Addr) (r : Int) (D : Nat) (out : List Int) (O Od : Addr → Prop) (s : PgS), vs = [.ref kt] ∧ KtA c H kt p r D ∧ PagAt c H p q O Od s ∧ PWk D (gpg s) [r] out ∧ out.length ≤ 400000 ∧ D ≤ 8 ∧ ∀ b H', H b = none → Kp F0 H H' → H' b = some (.lst (out.map V.int)) → Q (.ref b) H'
theorem ok_KeyTree_pages (T : Txt K mg c) : GM P w K mg base CX0 5 c.KeyTree "pages" (sp_KeyTree_pages c) := by
  obtain ⟨f, fd, F, gf, gi⟩ := T.f_KeyTree_pages
  obtain ⟨_, mg_INNER⟩ := T.m_INNER
  have tc_KeyTree := T.cl_KeyTree; have tn_KeyTree_pager := T.n_KeyTree_pager; have tn_KeyTree_root := T.n_KeyTree_root; have tn_KeyTree_dimensions := T.n_KeyTree_dimensions
  refine ⟨f, fd, ["self"], F.ok sc_KeyTree_pages ?_ (fun cdv A outer s0 H vs Q E hr h => ?_), ⟨gf, gi, F.kp⟩, (F.binds (ps := ["self"]) fun _ _ _ _ _ _ us hl => match us, hl with | [_], _ => rfl)⟩
  · rintro vs H Q E ⟨_, _, _, _, _, _, _, _, _, rfl, _⟩
    rfl
  · obtain ⟨kt, p, q, r, D, out, O, Od, s, rfl, hkt, hP, pw, lo, hD, k⟩ := h
    obtain ⟨dx, ho⟩ := hkt.o
    refine ⟨_, (pss_cons (ps_set (i := 1) sc_KeyTree_pages.nd rfl (Or.inl rfl) (pe_lst pa_nil))
      (pss_cons (ps_set (i := 2) sc_KeyTree_pages.nd rfl (Or.inl rfl) (pe_lst (pa_cons (pe_fldK rfl (pv 0)) pa_nil)))
      (pss_cons (ps_while PassesOwn.never (pt_cmpR op_gt (pe_callB (r := rLenQ K) c_len (by rfl) T.z_len PySem.boot_len (pa_cons (pv 2) pa_nil)) pe_int (nomark _)) (pss_cons (ps_set (i := 3) sc_KeyTree_pages.nd rfl (Or.inl rfl) (pe_kBM0 rfl (pe_bm0 PySem.F.plainAttrs_list PySem.F.slot_list_pop PySem.F.type_list_pop mt_pop (pv 2))))
      (pss_cons (ps_expr (pe_kBM rfl (pe_bm PySem.F.plainAttrs_list PySem.F.slot_list_append PySem.F.type_list_append mt_append (pv 1) (pa_cons (pv 3) pa_nil))))
      (pss_cons (ps_asg (pe_gm T.cl_KeyTree (ok_KeyTree_load T) (pv 0) (hr.mono (by decide)) pass0S (pa_cons (pv 3) pa_nil)) (pg_kT rfl (pg_tup (n := 2) rfl (pgs_cons (pg_name (i := 4) sc_KeyTree_pages.nd rfl (Or.inl rfl)) (pgs_cons (pg_name (i := 5) sc_KeyTree_pages.nd rfl (Or.inl rfl)) pgs_nil)))))
      (pss_one (ps_if (pt_cmpR op_eq (pv 4) (pe_glob (v := .int 2) rfl mg_INNER ⟨_, rfl⟩) (nomark _)) (pss_one (ps_expr (pe_kBM rfl (pe_bm PySem.F.plainAttrs_list PySem.F.slot_list_extend PySem.F.type_list_extend mt_extend (pv 2) (pa_cons (pe_lc (own := [("child", 6)]) (g := (gName 6)) (tt := tYes) rfl sc_KeyTree_pages.nd (pi_revK rfl (pi_reversed (by rfl) T.z_reversed (pa_cons (pv 5) pa_nil))) (blkOk_by (N := ["self", "found", "waiting", "number", "kind", "items", "child"]) (sc := defScope s_KeyTree_pages) (by decide +kernel)) (fun _ _ _ _ _ => (pg_name (i := 6) sc_KeyTree_pages.nd rfl (Or.inl rfl))) (fun _ _ _ _ _ => pts_nil) (fun _ _ _ _ _ => (pe_ix (r := rIxT K) ix_tup (pv 6) pe_int (fun _ _ => rfl)))) pa_nil))))) pss_nil))))))
      (pss_one (ps_ret (pv 1)))))), ?_⟩
    walk_at "cx"
    walk_at "rd"
    refine x_newL fun fl H1 hfl k1 e1 => ?_
    have ho1 := k1.get ho id
    walk_at "rd"
    refine x_newL fun wl H2 hwl k2 e2 => ?_
    walk_at "rd"
    have fwl : H wl = none := k1.free hwl id
    have nfw : fl ≠ wl := ne_of_none e1 hwl
    refine x_wh (fun m σ H' => ∃ done rest st u3 u4 u5, m = rest.length ∧ σ = [some (.ref kt), some (.ref fl), some (.ref wl), u3, u4, u5, none] ∧ H' fl = some (.lst (done.map V.int)) ∧ H' wl = some (.lst (st.reverse.map V.int)) ∧ PWk D (gpg s) st rest ∧ out = done ++ rest ∧ Kp F0 H H') ?_ ?_
    · exact ⟨_, [], out, [r], none, none, none, rfl, rfl, k2.get e1 id, e2, pw, rfl, k1.trans k2 fun _ z => z.elim⟩
    · rintro m σ H3 ⟨done, rest, st, u3, u4, u5, rfl, rfl, hf3, hw3, pw3, eo, k3⟩
      have ho3 := k3.get ho id
      have sl := pw3.len
      have ll : out.length = done.length + rest.length := by rw [eo, List.length_append]
      walk_at "rd"
      rw [List.length_map, List.length_reverse]
      cases pw3 with
      | nil =>
        rw [decide_eq_false (by decide)]
        walk_at "rd"
        rw [List.append_nil] at eo
        exact k fl H3 hfl k3 (by rw [eo]; exact hf3)
      | leaf d pw4 =>
        rename_i n st rest its
        rw [decide_eq_true (by rw [List.length_cons]; omega)]
        walk_at "rd"
        refine ⟨_, fun σ' H' z => ⟨rest.length, Nat.lt_succ_self _, z⟩, ?_⟩
        rw [List.reverse_cons, List.map_append, List.map_cons, List.map_nil] at hw3
        walk_at "rd"
        refine ⟨wl, _, .int n, rfl, rfl, hw3, by simp, ?_⟩
        rw [List.dropLast_concat]
        have k4 : Kp (F1 wl) H3 (upd H3 wl (.lst (st.reverse.map V.int))) := Kp.put hw3 id
        have e4 : (upd H3 wl (.lst (st.reverse.map V.int)) : Hp) wl = some (.lst (st.reverse.map V.int)) := upd_same
        generalize upd H3 wl (.lst (st.reverse.map V.int)) = H4 at k4 e4 ⊢
        have k04 : Kp F0 H H4 := fun x o hx _ => k4.get (k3.get hx id) (ne_of_none hx fwl)
        have hf4 := k4.get hf3 nfw
        walk_at "rd"
        refine x_app hf4 (by rw [List.length_map]; omega) fun H5 e5 k5 => ?_
        have k05 : Kp F0 H H5 := fun x o hx _ => k5.get (k04.get hx id) (ne_of_none hx hfl)
        have ho5 := k05.get ho id
        walk_at "rd"
        refine ⟨kt, p, q, r, D, n, 1, its, O, Od, s, rfl, hkt.kp k05 id, hP.same k05, d, hD, fun H6 t6 l6 ws6 k6 e6 f6 el6 hv6 => ?_⟩
        walk_at "rd"
        rw [decide_eq_false (by decide)]
        walk_at "rd"
        exact ⟨done ++ [n], rest, st, _, _, _, rfl, rfl, by rw [List.map_append]; exact k6.get e5 id, k6.get (k5.get e4 nfw.symm) id, pw4, by rw [eo, List.append_assoc]; rfl, k05.trans k6 fun _ z => z.elim⟩
      | node d pw4 =>
        rename_i n st rest its
        rw [decide_eq_true (by rw [List.length_cons]; omega)]
        walk_at "rd"
        refine ⟨_, fun σ' H' z => ⟨rest.length, Nat.lt_succ_self _, z⟩, ?_⟩
        rw [List.reverse_cons, List.map_append, List.map_cons, List.map_nil] at hw3
        walk_at "rd"
        refine ⟨wl, _, .int n, rfl, rfl, hw3, by simp, ?_⟩
        rw [List.dropLast_concat]
        have k4 : Kp (F1 wl) H3 (upd H3 wl (.lst (st.reverse.map V.int))) := Kp.put hw3 id
        have e4 : (upd H3 wl (.lst (st.reverse.map V.int)) : Hp) wl = some (.lst (st.reverse.map V.int)) := upd_same
        generalize upd H3 wl (.lst (st.reverse.map V.int)) = H4 at k4 e4 ⊢
        have k04 : Kp F0 H H4 := fun x o hx _ => k4.get (k3.get hx id) (ne_of_none hx fwl)
        have hf4 := k4.get hf3 nfw
        walk_at "rd"
        refine x_app hf4 (by rw [List.length_map]; omega) fun H5 e5 k5 => ?_
        have k05 : Kp F0 H H5 := fun x o hx _ => k5.get (k04.get hx id) (ne_of_none hx hfl)
        have ho5 := k05.get ho id
        walk_at "rd"
        refine ⟨kt, p, q, r, D, n, 2, its, O, Od, s, rfl, hkt.kp k05 id, hP.same k05, d, hD, fun H6 t6 l6 ws6 k6 e6 f6 el6 hv6 => ?_⟩
        have e46 := k6.get (k5.get e4 nfw.symm) id
        have lv := hv6.length
        have lz := d.lz
        have sl4 := pw4.len
        rw [List.length_append, List.length_map] at sl4
        rw [List.length_cons] at ll
        walk_at "rd"
        rw [decide_eq_true (by rfl)]
        walk_at "rd"
        refine wlcP (ys := (its.reverse.map (·.c)).map V.int) Wk.rev (by rw [List.length_map, List.length_map, List.length_reverse, List.length_reverse, lv]) (by rw [List.length_reverse]; omega) (fun H' k' => SqL.of (k'.get el6 id)) (fun j x y H' R ex ey kp hR => ?_) (fun L H7 hL k7 hL7 => ?_)
        · obtain ⟨y', ey', hy'⟩ := pgt (pr_rev hv6) ex
          obtain ⟨t, rr, rfl, ht, _⟩ := hy'.three
          have ht' := kp.sqT ht
          walk_at "rd"
          refine ⟨rfl, ?_⟩
          walk_at "rd"
          refine x_ixT (v := .int y'.c) ht' (atI_at 2 rfl rfl) ?_
          rw [List.getElem?_map, List.getElem?_map, ey'] at ey
          cases ey
          exact hR H' (Kp.refl _)
        · have e47 := k7.get e46 id
          walk_at "rd"
          refine x_ext e47 hL7 (by simp only [List.length_map, List.length_reverse]; omega) fun H8 e8 k8 => ?_
          have k08 : Kp F0 H H8 := fun x o hx _ => k8.get (k7.get (k6.get (k05.get hx id) id) id) (ne_of_none hx fwl)
          refine ⟨done ++ [n], rest, _, _, _, _, rfl, rfl, by rw [List.map_append]; exact k8.get (k7.get (k6.get e5 id) id) nfw, ?_, pw4, by rw [eo, List.append_assoc]; rfl, k08⟩
          rw [e8, ← List.map_append, List.reverse_append, List.map_reverse]
end
section
variable {P : Program} {w : World} {K : PySem.W.Frag} {mg : Str → Option Value} {base : Heap} {c : Cl}
def sp_spanned (K : PySem.W.Frag) : Sp := fun vs H Q _ => ∃ (st sc : Addr), vs = [.ref st, .ref sc] ∧ Dr K H st sc ∧ ∀ d H', 0 ≤ d → d ≤ 32767 → Dr K H' st sc → Kp (F1 st) H H' → Q (.int d) H'
theorem ok__law_spanned (T : Txt K mg c) : GF P w K mg base CX0 2 "_law_spanned" (sp_spanned K) := by
  obtain ⟨f, fd, F, gm⟩ := T.f__law_spanned
  refine ⟨f, fd, ["_law_state", "_law_script"], F.ok sc__law_spanned ?_ (fun cdv A outer s H vs Q E hr h => ?_), gm, F.kp, (F.binds (ps := ["_law_state", "_law_script"]) fun _ _ _ _ _ _ us hl => match us, hl with | [_, _], _ => rfl)⟩
  · rintro vs H Q E ⟨_, _, rfl, _⟩
    rfl
  · obtain ⟨st, sc, rfl, d, k⟩ := h
    obtain ⟨_, _, _, _, _, hst, _⟩ := id d
    refine ⟨_, (pss_one (ps_ret (pe_ix (r := rIxL K) ix_list (pe_lst (pa_cons pe_int (pa_cons pe_int (pa_cons pe_int (pa_cons pe_int pa_nil))))) (pe_g (ok__law_draw T) (hr.mono (by decide)) pass0S (pa_cons (pv 0) (pa_cons (pv 1) (pa_cons pe_int pa_nil)))) (fun _ _ => rfl)))), ?_⟩
    walk_at "cx"
    walk_at "rd"
    refine x_newL fun p H1 hp kp hp1 => ?_
    walk_at "rd"
    refine ⟨st, sc, 4, rfl, by omega, by omega, d.kp kp id, fun d' H2 d0 d1 dr kp2 => ?_⟩
    have hp2 := kp2.get hp1 (Ne.symm (ne_of_none hst hp))
    have kk : Kp (F1 st) H H2 := (kp.mono fun _ z => z.elim).trans kp2 fun _ z => .inl z
    have c4 : d' = 0 ∨ d' = 1 ∨ d' = 2 ∨ d' = 3 := by omega
    rcases c4 with rfl | rfl | rfl | rfl
    · refine x_ixL (SqL.of hp2) rfl (k _ _ (by decide) (by decide) dr kk)
    · refine x_ixL (SqL.of hp2) rfl (k _ _ (by decide) (by decide) dr kk)
    · refine x_ixL (SqL.of hp2) rfl (k _ _ (by decide) (by decide) dr kk)
    · refine x_ixL (SqL.of hp2) rfl (k _ _ (by decide) (by decide) dr kk)
def sp_payload (K : PySem.W.Frag) : Sp := fun vs H Q _ => ∃ (st sc : Addr), vs = [.ref st, .ref sc] ∧ Dr K H st sc ∧ ∀ p H' (ns : List Int), ns.length ≤ 40 → Byt ns → H' p = some (.tup (ns.map V.int)) → Dr K H' st sc → Kp (F1 st) H H' → Q (.ref p) H'
theorem ok__law_payload (T : Txt K mg c) : GF P w K mg base CX0 2 "_law_payload" (sp_payload K) := by
  obtain ⟨f, fd, F, gm⟩ := T.f__law_payload
  refine ⟨f, fd, ["_law_state", "_law_script"], F.ok sc__law_payload ?_ (fun cdv A outer s H vs Q E hr h => ?_), gm, F.kp, (F.binds (ps := ["_law_state", "_law_script"]) fun _ _ _ _ _ _ us hl => match us, hl with | [_, _], _ => rfl)⟩
  · rintro vs H Q E ⟨_, _, rfl, _⟩
    rfl
  · obtain ⟨st, sc, rfl, d, k⟩ := h
    obtain ⟨_, _, _, _, _, hst, _⟩ := id d
    refine ⟨_, (pss_cons (ps_set (i := 2) sc__law_payload.nd rfl (Or.inl rfl) (pe_ix (r := rIxL K) ix_list (pe_lst (pa_cons pe_int (pa_cons pe_int (pa_cons pe_int (pa_cons pe_int pa_nil))))) (pe_g (ok__law_draw T) (hr.mono (by decide)) pass0S (pa_cons (pv 0) (pa_cons (pv 1) (pa_cons pe_int pa_nil)))) (fun _ _ => rfl)))
      (pss_one (ps_ret (pe_callTy (r := rTupQ K) c_tuple (by rfl) T.z_tuple (by decide +kernel) (pa_cons (pe_lc (own := [("_law_k", 3)]) (g := (gName 3)) (tt := tYes) rfl sc__law_payload.nd (pi_range1 (by rfl) T.z_range (pa_cons (pv 2) pa_nil)) (blkOk_by (N := ["_law_state", "_law_script", "_law_most", "_law_k"]) (sc := defScope s__law_payload) (by decide +kernel)) (fun _ _ _ _ _ => (pg_name (i := 3) sc__law_payload.nd rfl (Or.inl rfl))) (fun _ _ _ _ _ => pts_nil) (fun _ _ _ _ _ => (pe_g (ok__law_draw T) (hr.mono (by decide)) pass0S (pa_cons (pv 0) (pa_cons (pv 1) (pa_cons pe_int pa_nil)))))) pa_nil))))), ?_⟩
    walk_at "cx"
    walk_at "rd"
    refine x_newL fun p H1 hp kp hp1 => ?_
    walk_at "rd"
    refine ⟨st, sc, 4, rfl, by omega, by omega, d.kp kp id, fun d' H2 d0 d1 dr2 kp2 => ?_⟩
    have hp2 := kp2.get hp1 (Ne.symm (ne_of_none hst hp))
    have kk : Kp (F1 st) H H2 := (kp.mono fun _ z => z.elim).trans kp2 fun _ z => .inl z
    obtain ⟨_, _, _, _, _, hst2, _⟩ := id dr2
    have go : ∃ z : Int, 0 ≤ z ∧ z ≤ 40 ∧ atI [V.int 0, .int 1, .int 5, .int 40] d' = some (.int z) := by
      have c4 : d' = 0 ∨ d' = 1 ∨ d' = 2 ∨ d' = 3 := by omega
      rcases c4 with rfl | rfl | rfl | rfl
      · exact ⟨0, by decide, by decide, rfl⟩
      · exact ⟨1, by decide, by decide, rfl⟩
      · exact ⟨5, by decide, by decide, rfl⟩
      · exact ⟨40, by decide, by decide, rfl⟩
    obtain ⟨z, z0, z1, ez⟩ := go
    refine x_ixL (SqL.of hp2) ez ?_
    walk_at "rd"
    refine wlc Wk.rng (F1 st) (fun H' => Dr K H' st sc) (fun i acc => ∃ ns : List Int, acc = ns.map V.int ∧ ns.length = i ∧ Byt ns) (fun b e => by rw [e, hst2]; exact fun z => by cases z) (by rw [rgl_len]; omega) (fun _ _ _ => trivial)
      ⟨[], rfl, rfl, fun _ h => by cases h⟩ dr2 (fun D hD H' o m q => q.off (ne_of_none hst2 hD) m) (fun i x acc H' R R0 ex pv dr kp hR _ => ?_) (fun D H3 acc hD hacc pv dr kp => ?_)
    · obtain ⟨ns, rfl, hl, hx⟩ := pv
      walk_at "rd"
      refine ⟨rfl, ?_⟩
      walk_at "rd"
      refine ⟨st, sc, _, rfl, by omega, by omega, dr, fun d' H'' d0 d1 dr' kp' => ?_⟩
      refine hR _ _ kp' dr' ⟨ns ++ [d'], by rw [List.map_append]; rfl, by rw [List.length_append, hl]; rfl, fun x hx' => ?_⟩
      rcases List.mem_append.mp hx' with h | h
      · exact hx x h
      · rw [List.mem_singleton.mp h]; exact ⟨d0, d1⟩
    · obtain ⟨ns, rfl, hl, hx⟩ := pv
      rw [rgl_len] at hl
      walk_at "rd"
      refine x_tupL (SqL.of hacc) fun l H4 hl2 kp4 hp => ?_
      exact k l H4 ns (by omega) hx hp (dr.kp kp4 id) ((kk.trans kp fun _ z => .inl z).trans kp4 fun _ z => z.elim)
end
section
variable {P : Program} {w : World} {K : PySem.W.Frag} {mg : Str → Option Value} {base : Heap} {c : Cl}
def sp_point (K : PySem.W.Frag) : Sp := fun vs H Q _ => ∃ (st sc : Addr) (n sp : Int), vs = [.ref st, .ref sc, .int n, .int sp] ∧ 0 ≤ n ∧ n ≤ 1000 ∧ 0 ≤ sp ∧ sp ≤ 100000 ∧ Dr K H st sc ∧
  ∀ p H' (ns : List Int), (ns.length : Int) = n → (∀ x ∈ ns, -sp - 1 ≤ x ∧ x ≤ sp) → H' p = some (.tup (ns.map V.int)) → Dr K H' st sc → Kp (F1 st) H H' → Q (.ref p) H'
theorem ok__law_point (T : Txt K mg c) : GF P w K mg base CX0 2 "_law_point" (sp_point K) := by
  obtain ⟨f, fd, F, gm⟩ := T.f__law_point
  refine ⟨f, fd, ["_law_state", "_law_script", "_law_many", "_law_span"], F.ok sc__law_point ?_ (fun cdv A outer s H vs Q E hr h => ?_), gm, F.kp, (F.binds (ps := ["_law_state", "_law_script", "_law_many", "_law_span"]) fun _ _ _ _ _ _ us hl => match us, hl with | [_, _, _, _], _ => rfl)⟩
  · rintro vs H Q E ⟨_, _, _, _, rfl, _⟩
    rfl
  · obtain ⟨st, sc, n, sp, rfl, n0, n1, s0, s1, d, k⟩ := h
    obtain ⟨_, _, _, _, _, hst, _⟩ := id d
    refine ⟨_, (pss_one (ps_ret (pe_callTy (r := rTupQ K) c_tuple (by rfl) T.z_tuple (by decide +kernel) (pa_cons (pe_lc (own := [("_law_k", 4)]) (g := (gName 4)) (tt := tYes) rfl sc__law_point.nd (pi_range1 (by rfl) T.z_range (pa_cons (pv 2) pa_nil)) (blkOk_by (N := ["_law_state", "_law_script", "_law_many", "_law_span", "_law_k"]) (sc := defScope s__law_point) (by decide +kernel)) (fun _ _ _ _ _ => (pg_name (i := 4) sc__law_point.nd rfl (Or.inl rfl))) (fun _ _ _ _ _ => pts_nil) (fun _ _ _ _ _ => (pe_op op_sub (pe_g (ok__law_draw T) (hr.mono (by decide)) pass0S (pa_cons (pv 0) (pa_cons (pv 1) (pa_cons (pe_op op_add (pe_op op_mul pe_int (pv 3)) pe_int) pa_nil)))) (pv 3)))) pa_nil)))), ?_⟩
    walk_at "cx"
    walk_at "rd"
    refine wlc Wk.rng (F1 st) (fun H' => Dr K H' st sc) (fun i acc => ∃ ns : List Int, acc = ns.map V.int ∧ ns.length = i ∧ ∀ x ∈ ns, -sp - 1 ≤ x ∧ x ≤ sp) (fun b e => by rw [e, hst]; exact fun z => by cases z) (by rw [rgl_len]; omega) (fun _ _ _ => trivial)
      ⟨[], rfl, rfl, fun _ h => by cases h⟩ d (fun D hD H' o m q => q.off (ne_of_none hst hD) m) (fun i x acc H' R R0 ex pv dr kp hR _ => ?_) (fun D H1 acc hD hacc pv dr kp => ?_)
    · obtain ⟨ns, rfl, hl, hx⟩ := pv
      walk_at "rd"
      refine ⟨rfl, ?_⟩
      walk_at "rd"
      refine ⟨st, sc, _, rfl, by omega, by omega, dr, fun d' H'' d0 d1 dr' kp' => ?_⟩
      walk_at "rd"
      refine hR _ _ kp' dr' ⟨ns ++ [d' - sp], by rw [List.map_append]; rfl, by rw [List.length_append, hl]; rfl, fun x hx' => ?_⟩
      rcases List.mem_append.mp hx' with h | h
      · exact hx x h
      · rw [List.mem_singleton.mp h]; omega
    · obtain ⟨ns, rfl, hl, hx⟩ := pv
      rw [rgl_len] at hl
      walk_at "rd"
      refine x_tupL (SqL.of hacc) fun l H2 hl2 kp2 hp => ?_
      exact k l H2 ns (by omega) hx hp (dr.kp kp2 id) (kp.trans kp2 fun _ z => z.elim)
end
/-! ### sorted of tuples that are told apart by their first two numbers -/
open PySem.Spec PyProof.Rows in
def IsT2 (h : Heap) (v : Value) (x y : Int) : Prop := ∃ a o t u r n, v = .ref a ∧ h.get? a = some o ∧ o.cls = .type "tuple" ∧ o.data = .seq (Value.int x t :: Value.int y u :: r).toArray n
theorem IsT2.keeps {h h' : Heap} {v : Value} {x y : Int} (p : IsT2 h v x y) (k : ∀ b o, h.get? b = some o → o.cls = .type "tuple" → h'.get? b = some o) : IsT2 h' v x y := by
  obtain ⟨a, o, t, u, r, n, e, ho, hc, hd⟩ := p
  exact ⟨a, o, t, u, r, n, e, k _ _ ho hc, hc, hd⟩
section
open PyProof.Rows SrtO
variable {prog : Program} {w : World} {A : Around} {E : Value → Shared → Prop} {s : Shared}
theorem kat_sames {b fin : Bool} {Q : Bool → Shared → Prop} (h : Q fin s) : ∀ (l : List Value) (i : Nat), PySem.W.KatLex prog w A b fin Q (l.zip l) i s
  | [], _ => PySem.W.kat_nil h
  | v :: l, i => PySem.W.kat_cons (SeqAt.EqAt.same v prog w _ _ (PySem.W.kat_yes (kat_sames h l (i + 1))))
theorem t2_cmp {vs : List Value} {k : Value → Int × Int} (hp : ∀ v ∈ vs, IsT2 s.heap v (k v).1 (k v).2) (hi : ∀ v ∈ vs, ∀ u ∈ vs, k v = k u → v = u) : Cmp prog w A s (tuples' true) (fun p => p.1 ∈ vs) (lt2 fun v u => lexB (k v) (k u)) := by
  intro p q hm hm'
  have h1 := hp _ hm
  have h2 := hp _ hm'
  show wpAny (model prog w) A (keyLt' (tuples' true) p.1 q.1) (fun r s' => s' = s ∧ r = lexB (k p.1) (k q.1)) (fun _ _ => False) s
  by_cases eq : p.1 = q.1
  · rw [eq] at h1 ⊢
    obtain ⟨a, o, t, u, r, n, e, ho, hc, hd⟩ := h1
    rw [e]
    refine PySem.W.kat_lt ho hd ho hd (kat_sames ⟨rfl, ?_⟩ _ 0)
    have z : lexB (k (Value.ref a)) (k (Value.ref a)) = false := lexB_no.mpr (by omega)
    rw [z]
    exact decide_eq_false (Nat.lt_irrefl _)
  · have hn : k p.1 ≠ k q.1 := fun z => eq (hi _ hm _ hm' z)
    unfold lexB
    have hx : (k p.1).1 = (k q.1).1 → ¬ (k p.1).2 = (k q.1).2 := fun a b => hn (Prod.ext a b)
    generalize (k p.1).1 = x at h1 hx ⊢
    generalize (k p.1).2 = y at h1 hx ⊢
    generalize (k q.1).1 = x' at h2 hx ⊢
    generalize (k q.1).2 = y' at h2 hx ⊢
    obtain ⟨a, o, t, u, r, n, e, ho, hc, hd⟩ := h1
    obtain ⟨a', o', t', u', r', n', e', ho', hc', hd'⟩ := h2
    rw [e, e']
    refine PySem.W.kat_lt ho hd ho' hd' ?_
    show PySem.W.KatLex prog w A true _ _ ((.int x t, .int x' t') :: (.int y u, .int y' u') :: r.zip r') 0 s
    refine PySem.W.kat_cons (SeqAt.EqAt.int_int x t x' t' prog w _ _ ?_)
    refine PySem.W.kat_go (fun e1 => ?_) (fun e1 => ?_)
    · have ex : x = x' := by simpa using e1
      refine PySem.W.kat_yes (PySem.W.kat_cons (SeqAt.EqAt.int_int y u y' u' prog w _ _ ?_))
      refine PySem.W.kat_go (fun e2 => absurd (by simpa using e2) (hx ex)) (fun e2 => ?_)
      have e3 : (if x = x' then decide (y < y') else decide (x < x')) = decide (y < y') := if_pos ex
      refine PySem.W.kat_no (PySem.W.kat_one _ _ (PyProof.Rows.lt_int ?_))
      exact (show s = s ∧ decide (y < y') = (if x = x' then decide (y < y') else decide (x < x')) from ⟨rfl, e3.symm⟩)
    · have ex : ¬ x = x' := by simpa using e1
      have e3 : (if x = x' then decide (y < y') else decide (x < x')) = decide (x < x') := if_neg ex
      exact PySem.W.kat_no (oneLt_int ⟨rfl, e3.symm⟩)
theorem t2_firsts {h : Heap} : ∀ {vs : List Value}, (∀ v ∈ vs, ∃ x y, IsT2 h v x y) → ∃ fs : List Value, PySem.W.KatTups h vs fs ∧ fs.length = vs.length ∧ ∀ f ∈ fs, ∃ x t, f = Value.int x t
  | [], _ => ⟨[], PySem.W.KatTups.nil, rfl, fun _ hm => by simp at hm⟩
  | v :: vs, hp => by
    obtain ⟨fs, h1, h2, h3⟩ := t2_firsts (vs := vs) fun v' hm => hp v' (List.mem_cons_of_mem _ hm)
    obtain ⟨x, y, a, o, t, u, r, n, e, ho, hc, hd⟩ := hp v (List.mem_cons_self ..)
    subst e
    refine ⟨.int x t :: fs, PySem.W.KatTups.cons ho hc hd rfl h1, by rw [List.length_cons, List.length_cons, h2], fun f hm => ?_⟩
    rcases List.mem_cons.mp hm with rfl | hm
    · exact ⟨x, t, rfl⟩
    · exact h3 f hm
theorem t2_sortable {a : Addr} {vs : List Value} {k : Value → Int × Int} (h0 : 0 < vs.length) (hp : ∀ v ∈ vs, IsT2 s.heap v (k v).1 (k v).2) (hi : ∀ v ∈ vs, ∀ u ∈ vs, k v = k u → v = u) (ha : ∀ o, s.heap.get? a = some o → o.cls ≠ .type "tuple") : SortableO prog w A s a vs fun v u => lexB (k v) (k u) := by
  intro h' keep
  have hp' : ∀ v ∈ vs, IsT2 h' v (k v).1 (k v).2 := fun v hm => (hp v hm).keeps fun b o e c => keep b o (fun z => by subst z; exact ha o e c) e
  obtain ⟨fs, h1, h2, h3⟩ := t2_firsts fun v hm => ⟨_, _, hp' v hm⟩
  refine ⟨tuples' true, fun Q E hq => ?_, t2_cmp hp' hi⟩
  refine PySem.W.kat_kind (T := .type "int") h1 (by omega) (fun f hm => ?_) (by rfl) ?_
  · obtain ⟨x, t, rfl⟩ := h3 f hm
    exact PySem.W.Looks.now
  · have e : (Value.type "int" != Value.type "tuple") = true := by first | decide +kernel | rfl | decide
    rw [e]
    exact hq
end
/-- sorted(xs), xs a list of tuples of any kind whose first two are ints that tell them apart -/
def rSort5 (K : PySem.W.Frag) : List V → Hp → VK → Prop := fun vs H Q => ∃ (a : Addr) (xs : List V) (k : V → Int × Int), vs = [V.ref a] ∧ SqL K H a xs ∧ (∀ x ∈ xs, ∃ t r, x = V.ref t ∧ SqT K H t (.int (k x).1 :: .int (k x).2 :: r)) ∧ (∀ x ∈ xs, ∀ y ∈ xs, k x = k y → x = y) ∧
  ∀ ys p, SrtO.Srtd (ltP k) ys → ys.Perm xs → H p = none → Q (.ref p) (upd H p (.lst ys))
section
open PySem.Spec PyProof.Rows
variable {X : Cx}
theorem cr_sorted5 : CallR X (.builtin "sorted") (rSort5 X.K) := by
  intro pins s σ H vs us Q I r h
  obtain ⟨a, xs, k, rfl, hs, hx, hinj, q⟩ := h
  obtain ⟨its, rv, hl, hz⟩ := I.list hs
  obtain ⟨u, rfl, ru⟩ := vals1 r
  obtain rfl : u = Value.ref a := ru
  obtain ⟨e1, e2⟩ := refs_back rv fun x m => by
    obtain ⟨t, _, e, _⟩ := hx x m
    exact ⟨t, e⟩
  have bk : ∀ v ∈ its, backV v ∈ xs := fun v hv => by rw [e1]; exact List.mem_map.mpr ⟨_, hv, rfl⟩
  have it2 : ∀ v ∈ its, IsT2 s.heap v (k (backV v)).1 (k (backV v)).2 := fun v hv => by
    have hm := bk v hv
    obtain ⟨t, rfl⟩ := e2 v hv
    obtain ⟨t', r, e, ht⟩ := hx _ hm
    cases e
    obtain ⟨its2, r2, ⟨o, ho, hc, n, hd⟩, _⟩ := I.tuple ht
    cases r2 with
    | cons ra r3 =>
      cases r3 with
      | cons rb r4 =>
        obtain ⟨t1, rfl⟩ := ra
        obtain ⟨t2, rfl⟩ := rb
        exact ⟨_, o, t1, t2, _, n, rfl, ho, hc, hd⟩
  have ij : ∀ v ∈ its, ∀ u ∈ its, k (backV v) = k (backV u) → v = u := fun v hv u hu z => by
    have w := hinj _ (bk v hv) _ (bk u hu) z
    obtain ⟨t, rfl⟩ := e2 v hv
    obtain ⟨t', rfl⟩ := e2 u hu
    have w : V.ref t = V.ref t' := w
    cases w
    rfl
  refine SrtO.sorted_ord (SrtO.swo_lex fun u => k (backV u)) hl.isList (by rw [← rv.length]; exact hz) (fun h2 h₁ a ha kk => ?_) fun out h1 h2 => ?_
  · refine t2_sortable (s := { s with heap := h₁ }) (k := fun u => k (backV u)) (by omega) (fun v hm => (it2 v hm).keeps fun b o e _ => (kk b o e).2) ij fun o e => ?_
    have e' : some o = some (seqObj "list" its.toArray 0) := e.symm.trans ha
    cases e'
    intro c
    exact absurd (Value.type.inj c) (by decide)
  · have h3 : ∀ u ∈ out, ∃ a, u = Value.ref a := fun u hu => e2 u (h2.perm.mem_iff.mp hu)
    obtain ⟨n, hn⟩ := PyProof.Rows.sortedAll_at s.heap its out.toArray
    have hb : (out.map backV).Perm xs := by
      rw [e1]
      exact h2.perm.map backV
    refine ⟨.ref _, upd H _ (.lst (out.map backV)), I.laid (t' := s.toks) (fun _ _ e => PyProof.Rows.sortedAll_old e) (Nat.le_succ _) ⟨?_, out, n, vals_back h3, hn⟩, rfl, q _ _ (SrtO.srtd_map (f := backV) (lt := ltP k) h1) hb (I.hok.fresh (Nat.le_succ _))⟩
    rw [hb.length_eq]
    exact hz
end
/-- any(xs), ints -/
def rAnyI (K : PySem.W.Frag) : List V → Hp → VK → Prop := fun vs H Q => ∃ (a : Addr) (ns : List Int), vs = [V.ref a] ∧ SqL K H a (ns.map V.int) ∧ Q (.bl (ns.any fun n => n != 0)) H
theorem any_rng : ∀ ns : List Int, (List.range ns.length).any (fun i => (ns.getD i 0) != 0) = ns.any fun n => n != 0
  | [] => rfl
  | b :: bs => by
    rw [List.length_cons, List.range_succ_eq_map, List.any_cons, List.any_map, List.any_cons, ← any_rng bs]
    all_goals rfl
section
open PySem.Spec PyProof.Rows
variable {X : Cx}
theorem cr_anyI (hc : X.calm = true) : CallR X (.builtin "any") (rAnyI X.K) := by
  intro pins s σ H vs us Q I r h
  obtain ⟨a, ns, rfl, hs, q⟩ := h
  obtain ⟨its, rv, hl, _⟩ := I.list hs
  rw [Vals.ref1 r]
  have tr : TruthOf X.prog X.w X.A.in1 (fun i v => its.toArray[i]? = some v) (fun i => ns.getD i 0 != 0) := fun i v s Q E hv hq => by
    have hv' : its[i]? = some v := by simpa using hv
    obtain ⟨x, ex, rx⟩ := pgetr rv hv'
    rw [List.getElem?_map] at ex
    obtain ⟨n, hn, rfl⟩ := Option.map_eq_some_iff.mp ex
    obtain ⟨t, rfl⟩ := rx
    have hg : ns.getD i 0 = n := by rw [List.getD_eq_getElem?_getD, hn] <;> rfl
    have hq' : Q (ns.getD i 0 != 0) s := hq
    rw [hg] at hq'
    exact PySem.P.truthy_int hq'
  refine call_any_walk (iter_any hl.isList fun s₂ e2 st hne => ?_)
  subst e2
  refine ⟨_, _, _, _, _, _, _, rfl, Walks.list (A := X.A.in1) (I.ok.hd hc) _ a hne its.toArray, st, tr, fun h' tk hk => ?_⟩
  refine ⟨.bl _, H, I.kept fun b o eo => hk b o (fun hmem => ?_) (Heap.get?_push_of_some _ eo), ?_, q⟩
  · rcases List.mem_cons.mp hmem with e1 | hmem
    · exact absurd (e1 ▸ Heap.lt_size eo) (Nat.lt_irrefl _)
    · cases hmem
  · show Value.bool _ = Value.bool _
    have ln := rv.length
    rw [List.length_map] at ln
    rw [← any_rng, List.size_toArray, ← ln]
end
theorem x_anyI {K : PySem.W.Frag} {H : Hp} {Q : VK} {a : Addr} {ns : List Int} (h : SqL K H a (ns.map V.int)) (q : Q (.bl (ns.any fun n => n != 0)) H) : rAnyI K [.ref a] H Q := ⟨a, ns, rfl, h, q⟩
theorem rm65 {k : Nat} {A : Around} (r : Room k A) : A.units + 65 < cLine := by have := r.un; omega
/-- a pair of ints in a list of such pairs -/
theorem x_inP {K : PySem.W.Frag} {H : Hp} {Q : VK} {a t : Addr} {ws : List V} {ps : List (Int × Int)} {k b : Int} (ht : SqT K H t [.int k, .int b]) (ha : SqL K H a ws) (hw : Paired (fun v (p : Int × Int) => ∃ t, v = .ref t ∧ SqT K H t [.int p.1, .int p.2]) ws ps) (q : Q (.bl (decide ((k, b) ∈ ps))) H) : rInD K (.ref t) (.ref a) H Q := by
  have da : ∀ {ws : List V} {ps : List (Int × Int)}, Paired (fun v (p : Int × Int) => ∃ t, v = .ref t ∧ SqT K H t [.int p.1, .int p.2]) ws ps → DpAll K H ws (ps.map fun p => PyData.tuple ([p.1, p.2].map PyData.int)) := fun h => by
    induction h with
    | nil => exact .nil
    | cons r _ ih =>
      obtain ⟨t, rfl, h⟩ := r
      exact .cons (.tup h (dp_ints [_, _])) ih
  have shp : ∀ d ∈ ps.map (fun p => PyData.tuple ([p.1, p.2].map PyData.int)), Sh 1 d := fun d hd => by
    obtain ⟨p, _, rfl⟩ := List.mem_map.mp hd
    exact Sh.tuple (sh_ints _)
  refine ⟨PyData.tuple ([k, b].map PyData.int), _, .tup ht (dp_ints [k, b]), .lst ha (da hw), (Sh.tuple (sh_ints _)).shaped, (Sh.list shp).shaped, ?_⟩
  have e : ∀ ps : List (Int × Int), (ps.map fun p => PyData.tuple ([p.1, p.2].map PyData.int)).any (fun z => PyData.eqv z (PyData.tuple ([k, b].map PyData.int))) = decide ((k, b) ∈ ps) := fun ps => by
    induction ps with
    | nil => rfl
    | cons p ps ih =>
      rw [List.map_cons, List.any_cons, ih, eqv_dec (p := p = (k, b)) (Sh.tuple (sh_ints _)).2.2 (Sh.tuple (sh_ints _)).2.2 (by obtain ⟨x, y⟩ := p; simp), Bool.eq_iff_iff, Bool.or_eq_true, decide_eq_true_eq, decide_eq_true_eq, decide_eq_true_eq, List.mem_cons]
      exact or_congr_left ⟨Eq.symm, Eq.symm⟩
  rw [e]; exact q
instance : DecidableEq Itm := fun x y =>
  if h : x.a = y.a ∧ x.b = y.b ∧ x.c = y.c ∧ x.x = y.x then isTrue (by
    obtain ⟨a, b, c, x⟩ := x
    obtain ⟨a', b', c', y⟩ := y
    obtain ⟨h1, h2, h3, h4⟩ := h
    cases h1; cases h2; cases h3; cases h4; rfl)
  else isFalse fun e => h (by rw [e]; exact ⟨rfl, rfl, rfl, rfl⟩)
/-! ### items as data -/
def itD (it : Itm) : PyData := .tuple ([it.a, it.b, it.c].map PyData.int ++ match it.x with
  | none => []
  | some (pt, pl) => [.tuple (pt.map PyData.int), .tuple (pl.map PyData.int)])
theorem ItV.dp {K : PySem.W.Frag} {H : Hp} {v : V} {it : Itm} (h : ItV K H v it) : Dp K H v (itD it) := by
  obtain ⟨t, rfl, h⟩ := h
  unfold itD
  cases e : it.x with
  | none => rw [e] at h; exact .tup h (dp_ints [_, _, _])
  | some q =>
    obtain ⟨pt, pl⟩ := q
    rw [e] at h
    obtain ⟨p1, p2, h0, h1, h2⟩ := h
    exact .tup h0 (.cons (.int _) (.cons (.int _) (.cons (.int _) (.cons (.tup h1 (dp_ints _)) (.cons (.tup h2 (dp_ints _)) .nil)))))
theorem itD_sh (it : Itm) : Sh 2 (itD it) := by
  refine Sh.tuple fun d hd => ?_
  rcases List.mem_append.mp hd with h | h
  · have := sh_ints _ d h
    exact ⟨this.1, Nat.le_trans this.2.1 (by decide), this.2.2⟩
  · cases e : it.x with
    | none => rw [e] at h; simp at h
    | some q =>
      obtain ⟨pt, pl⟩ := q
      rw [e] at h
      simp only [List.mem_cons, List.not_mem_nil, or_false] at h
      rcases h with rfl | rfl
      · exact Sh.tuple (sh_ints _)
      · exact Sh.tuple (sh_ints _)
theorem itD_inj {x y : Itm} : itD x = itD y ↔ x = y := by
  constructor
  · intro h
    obtain ⟨a, b, c, x⟩ := x
    obtain ⟨a', b', c', y⟩ := y
    unfold itD at h
    simp only [List.map_cons, List.map_nil, List.cons_append, List.nil_append, PyData.tuple.injEq, List.cons.injEq, PyData.int.injEq] at h
    obtain ⟨rfl, rfl, rfl, h⟩ := h
    congr 1
    cases x with
    | none =>
      cases y with
      | none => rfl
      | some q => simp at h
    | some p =>
      cases y with
      | none => simp at h
      | some q =>
        simp only [List.cons.injEq, PyData.tuple.injEq, and_true] at h
        exact congrArg some (Prod.ext (map_int_inj.mp h.1) (map_int_inj.mp h.2))
  · rintro rfl; rfl
theorem itDs_inj : ∀ {xs ys : List Itm}, xs.map itD = ys.map itD ↔ xs = ys
  | [], [] => by simp
  | [], _ :: _ => by simp
  | _ :: _, [] => by simp
  | n :: ns, m :: ms => by simp [itDs_inj (xs := ns) (ys := ms), itD_inj]
theorem itDs_sh (xs : List Itm) : Sh 3 (.list (xs.map itD)) := Sh.list fun d hd => by
  obtain ⟨x, _, rfl⟩ := List.mem_map.mp hd
  exact itD_sh x
theorem x_neIt {K : PySem.W.Frag} {H : Hp} {Q : VK} {a b : Addr} {ws us : List V} {xs ys : List Itm} (ha : SqL K H a ws) (hw : ItVs K H ws xs) (hb : SqL K H b us) (hu : ItVs K H us ys) (q : Q (.bl (!decide (xs = ys))) H) : rNeD K (.ref a) (.ref b) H Q :=
  x_neD (.lst ha (dp_all (fun _ _ h => ItV.dp h) hw)) (.lst hb (dp_all (fun _ _ h => ItV.dp h) hu)) (itDs_sh _).shaped (itDs_sh _).shaped (by rw [eqv_dec (p := xs = ys) (itDs_sh _).2.2 (itDs_sh _).2.2 (by simp [itDs_inj])]; exact q)
/-! ### the law's list of entries, and the tree -/
def MdV (K : PySem.W.Frag) (H : Hp) (v : V) (it : Itm) : Prop := ∃ t p1 p2 pt pl, v = .ref t ∧ H t = some (.tup [.int it.a, .int it.b, .int it.c, .ref p1, .ref p2]) ∧ it.x = some (pt, pl) ∧ SqT K H p1 (pt.map V.int) ∧ SqT K H p2 (pl.map V.int)
theorem MdV.kp {K : PySem.W.Frag} {F : Addr → Prop} {H H' : Hp} {v : V} {it : Itm} (k : Kp F H H') (h : MdV K H v it) : MdV K H' v it := by
  obtain ⟨t, p1, p2, pt, pl, rfl, h0, ex, h1, h2⟩ := h
  exact ⟨t, p1, p2, pt, pl, rfl, k.tup h0, ex, k.sqT h1, k.sqT h2⟩
theorem MdV.it {K : PySem.W.Frag} {H : Hp} {v : V} {it : Itm} (h : MdV K H v it) : ItV K H v it := by
  obtain ⟨t, p1, p2, pt, pl, rfl, h0, ex, h1, h2⟩ := h
  refine ⟨t, rfl, ?_⟩
  rw [ex]
  exact ⟨p1, p2, SqT.of h0, h1, h2⟩
theorem MdV.det {K : PySem.W.Frag} {H : Hp} {v : V} {x y : Itm} (h : MdV K H v x) (g : MdV K H v y) : x.a = y.a ∧ x.b = y.b := by
  obtain ⟨t, p1, p2, pt, pl, rfl, h0, _⟩ := h
  obtain ⟨t', p1', p2', pt', pl', e, g0, _⟩ := g
  cases e
  rw [h0] at g0
  simp only [Option.some.injEq, HO.tup.injEq, List.cons.injEq, V.int.injEq] at g0
  exact ⟨g0.1, g0.2.1⟩
theorem nd_at {α : Type} {l : List α} (h : l.Nodup) {i j : Nat} {x : α} (hi : l[i]? = some x) (hj : l[j]? = some x) : i = j := by
  unfold List.Nodup at h
  rw [List.pairwise_iff_getElem] at h
  obtain ⟨a1, b1⟩ := List.getElem?_eq_some_iff.mp hi
  obtain ⟨a2, b2⟩ := List.getElem?_eq_some_iff.mp hj
  rcases Nat.lt_trichotomy i j with l | l | l
  · exact absurd (b1.trans b2.symm) (h i j a1 a2 l)
  · exact l
  · exact absurd (b2.trans b1.symm) (h j i a2 a1 l)
theorem pr_perm {α β : Type} {R : α → β → Prop} {xs ys : List α} (p : ys.Perm xs) : ∀ {ms : List β}, Paired R xs ms → ∃ zs, zs.Perm ms ∧ Paired R ys zs := by
  induction p with
  | nil => exact fun h => ⟨_, .refl _, h⟩
  | cons x _ ih =>
    intro ms h
    cases h with
    | cons r t =>
      obtain ⟨zs, q, g⟩ := ih t
      exact ⟨_, q.cons _, .cons r g⟩
  | swap x y l =>
    intro ms h
    cases h with
    | cons r t =>
      cases t with
      | cons r2 t2 => exact ⟨_, .swap _ _ _, .cons r2 (.cons r t2)⟩
  | trans _ _ ih1 ih2 =>
    intro ms h
    obtain ⟨zs, q, g⟩ := ih2 h
    obtain ⟨us, q2, g2⟩ := ih1 g
    exact ⟨us, q2.trans q, g2⟩
theorem asc_eq : ∀ {a b : List Itm}, a.Perm b → a.Pairwise (fun x y => ky x < ky y) → b.Pairwise (fun x y => ky x < ky y) → a = b
  | [], b, p, _, _ => (List.Perm.nil_eq p)
  | x :: a, [], p, _, _ => absurd p.length_eq (by simp)
  | x :: a, y :: b, p, h, g => by
    have e : x = y := by
      rw [List.pairwise_cons] at h g
      have m1 := p.mem_iff.mp (List.mem_cons_self (a := x) (l := a))
      have m2 := p.mem_iff.mpr (List.mem_cons_self (a := y) (l := b))
      rcases List.mem_cons.mp m1 with e | m1
      · exact e
      · rcases List.mem_cons.mp m2 with e | m2
        · exact e.symm
        · have := g.1 x m1; have := h.1 y m2; omega
    subst e
    rw [asc_eq p.cons_inv (List.pairwise_cons.mp h).2 (List.pairwise_cons.mp g).2]
section
open Classical
noncomputable def mk2 (K : PySem.W.Frag) (H : Hp) (v : V) : Int × Int := if h : ∃ it, MdV K H v it then (Classical.choose h |>.a, Classical.choose h |>.b) else (0, 0)
theorem mk2_eq {K : PySem.W.Frag} {H : Hp} {v : V} {it : Itm} (h : MdV K H v it) : mk2 K H v = (it.a, it.b) := by
  have e : ∃ it, MdV K H v it := ⟨it, h⟩
  unfold mk2
  rw [dif_pos e]
  obtain ⟨h1, h2⟩ := (Classical.choose_spec e).det h
  rw [h1, h2]
end
/-- the law's list, sorted -/
theorem x_srt {K : PySem.W.Frag} {H : Hp} {Q : VK} {a : Addr} {xs : List V} {ms es : List Itm} (ha : SqL K H a xs) (hm : Paired (MdV K H) xs ms) (p : ms.Perm es) (asc : es.Pairwise fun x y => ky x < ky y) (rb : ∀ e ∈ es, Rb e.b)
    (q : ∀ ys b H1, H b = none → Kp F0 H H1 → H1 b = some (.lst ys) → Paired (MdV K H1) ys es → Q (.ref b) H1) : rSort5 K [.ref a] H Q := by
  have nd : ∀ x ∈ ms, ∀ y ∈ ms, ky x = ky y → x = y := fun x hx y hy e => by
    have hx' := p.mem_iff.mp hx
    have hy' := p.mem_iff.mp hy
    obtain ⟨i, hi⟩ := List.mem_iff_getElem?.mp hx'
    obtain ⟨j, hj⟩ := List.mem_iff_getElem?.mp hy'
    obtain ⟨hi1, hi2⟩ := List.getElem?_eq_some_iff.mp hi
    obtain ⟨hj1, hj2⟩ := List.getElem?_eq_some_iff.mp hj
    rw [List.pairwise_iff_getElem] at asc
    rcases Nat.lt_trichotomy i j with l | l | l
    · have := asc i j hi1 hj1 l; rw [hi2, hj2] at this; omega
    · subst l; rw [hi] at hj; cases hj; rfl
    · have := asc j i hj1 hi1 l; rw [hi2, hj2] at this; omega
  have md : ∀ x ∈ xs, ∃ it ∈ ms, MdV K H x it := fun x hx => by
    obtain ⟨i, hi⟩ := List.mem_iff_getElem?.mp hx
    obtain ⟨y, ey, r⟩ := pgt hm hi
    exact ⟨y, List.mem_of_getElem? ey, r⟩
  refine ⟨a, xs, mk2 K H, rfl, ha, fun x hx => ?_, fun x hx y hy e => ?_, fun ys b srt pm hb => ?_⟩
  · obtain ⟨it, _, r⟩ := md x hx
    rw [mk2_eq r]
    obtain ⟨t, p1, p2, pt, pl, rfl, h0, _⟩ := r
    exact ⟨t, _, rfl, SqT.of h0⟩
  · obtain ⟨i, hi⟩ := List.mem_iff_getElem?.mp hx
    obtain ⟨j, hj⟩ := List.mem_iff_getElem?.mp hy
    obtain ⟨u, eu, ru⟩ := pgt hm hi
    obtain ⟨w, ew, rw'⟩ := pgt hm hj
    rw [mk2_eq ru, mk2_eq rw'] at e
    have eq : u = w := nd u (List.mem_of_getElem? eu) w (List.mem_of_getElem? ew) (by unfold ky; rw [(Prod.mk.inj e).1, (Prod.mk.inj e).2])
    have un : ∀ i j : Nat, ms[i]? = some u → ms[j]? = some u → i = j := fun i j h1 h2 => by
      have nk : (ms.map ky).Nodup := (p.map ky).nodup_iff.mpr (by
        unfold List.Nodup
        rw [List.pairwise_map]
        exact asc.imp fun h => Int.ne_of_lt h)
      exact nd_at nk (x := ky u) (by rw [List.getElem?_map, h1]; rfl) (by rw [List.getElem?_map, h2]; rfl)
    subst eq
    have := un i j eu ew
    subst this
    rw [hi] at hj
    exact Option.some.inj hj
  · obtain ⟨zs, pz, hz⟩ := pr_perm pm hm
    have az : zs.Pairwise fun x y => ky x < ky y := by
      unfold SrtO.Srtd at srt
      rw [List.pairwise_iff_getElem] at srt ⊢
      intro i j hi hj l
      have lz := hz.length
      have s1 := srt i j (by omega) (by omega) l
      obtain ⟨y1, ey1, r1⟩ := pgt hz (List.getElem?_eq_getElem (show i < ys.length by omega))
      obtain ⟨y2, ey2, r2⟩ := pgt hz (List.getElem?_eq_getElem (show j < ys.length by omega))
      have e1 : zs[i] = y1 := (List.getElem?_eq_some_iff.mp ey1).2
      have e2 : zs[j] = y2 := (List.getElem?_eq_some_iff.mp ey2).2
      have s1' : SrtO.lexB (mk2 K H ys[j]) (mk2 K H ys[i]) = false := s1
      rw [mk2_eq r1, mk2_eq r2, SrtO.lexB_no] at s1'
      rw [e1, e2]
      have m1 : y1 ∈ ms := pz.mem_iff.mp (List.mem_of_getElem? ey1)
      have m2 : y2 ∈ ms := pz.mem_iff.mp (List.mem_of_getElem? ey2)
      have rb1 := rb y1 (p.mem_iff.mp m1)
      have rb2 := rb y2 (p.mem_iff.mp m2)
      have ne : ky y1 ≠ ky y2 := fun e => by
        have nk : (zs.map ky).Nodup := ((pz.trans p).map ky).nodup_iff.mpr (by
          unfold List.Nodup
          rw [List.pairwise_map]
          exact asc.imp fun h => Int.ne_of_lt h)
        have := nd_at nk (i := i) (j := j) (x := ky y1) (by rw [List.getElem?_map, ey1]; rfl) (by rw [List.getElem?_map, ey2, e]; rfl)
        omega
      unfold ky kp Rb at *
      have s2 : ¬ (y2.a < y1.a ∨ (y2.a = y1.a ∧ y2.b < y1.b)) := s1'
      omega
    rw [asc_eq (pz.trans p) az asc] at hz
    exact q ys b _ hb (Kp.new hb) upd_same (hz.mono fun _ _ z => z.kp (Kp.new hb))
/-! ### set, erase by place in a list with different keys -/
theorem ky_ab {x y : Itm} (hx : Rb x.b) (hy : Rb y.b) : ky x = ky y ↔ x.a = y.a ∧ x.b = y.b := kp_eq hx hy
theorem set_rep {e : Int} : ∀ {ms : List Itm} {k : Nat} {x : Itm}, ms[k]? = some x → (∀ y ∈ ms, Rb y.b) → (ms.map ky).Nodup → ms.set k { x with c := e } = ms.map (repI x.a x.b e)
  | [], _, _, h, _, _ => by simp at h
  | y :: ms, 0, x, h, hr, nd => by
    simp only [List.getElem?_cons_zero, Option.some.injEq] at h
    subst h
    rw [List.map_cons, List.nodup_cons] at nd
    rw [List.set_cons_zero, List.map_cons]
    have e1 : repI y.a y.b e y = { y with c := e } := if_pos ⟨rfl, rfl⟩
    rw [e1, rep_id (hr y (by simp)) fun z hz => ⟨hr z (by simp [hz]), fun q => nd.1 (List.mem_map.mpr ⟨z, hz, q⟩)⟩]
  | y :: ms, k + 1, x, h, hr, nd => by
    rw [List.getElem?_cons_succ] at h
    rw [List.map_cons, List.nodup_cons] at nd
    rw [List.set_cons_succ, List.map_cons, set_rep h (fun z hz => hr z (by simp [hz])) nd.2]
    have hx := List.mem_of_getElem? h
    have e1 : repI x.a x.b e y = y := if_neg fun z => nd.1 (by rw [show ky y = ky x by unfold ky; rw [z.1, z.2]]; exact List.mem_map_of_mem hx)
    rw [e1]
theorem erase_del : ∀ {ms : List Itm} {k : Nat} {x : Itm}, ms[k]? = some x → (∀ y ∈ ms, Rb y.b) → (ms.map ky).Nodup → ms.eraseIdx k = delI x.a x.b ms
  | [], _, _, h, _, _ => by simp at h
  | y :: ms, 0, x, h, hr, nd => by
    simp only [List.getElem?_cons_zero, Option.some.injEq] at h
    subst h
    rw [List.map_cons, List.nodup_cons] at nd
    have e1 : delI y.a y.b (y :: ms) = delI y.a y.b ms := List.filter_cons_of_neg (by simp)
    rw [List.eraseIdx_cons_zero, e1, del_id (hr y (by simp)) fun z hz => ⟨hr z (by simp [hz]), fun q => nd.1 (List.mem_map.mpr ⟨z, hz, q⟩)⟩]
  | y :: ms, k + 1, x, h, hr, nd => by
    rw [List.getElem?_cons_succ] at h
    rw [List.map_cons, List.nodup_cons] at nd
    have hx := List.mem_of_getElem? h
    have ne : ¬ [y.a, y.b] = [x.a, x.b] := fun z => nd.1 (by
      simp only [List.cons.injEq, and_true] at z
      rw [show ky y = ky x by unfold ky; rw [z.1, z.2]]; exact List.mem_map_of_mem hx)
    have e1 : delI x.a x.b (y :: ms) = y :: delI x.a x.b ms := List.filter_cons_of_pos (by rw [decide_eq_false ne]; rfl)
    rw [List.eraseIdx_cons_succ, e1, erase_del h (fun z hz => hr z (by simp [hz])) nd.2]
theorem x_catT' {K : PySem.W.Frag} {H : Hp} {Q : VK} {a b : Addr} {xs ys : List V} (ha : SqT K H a xs) (hb : SqT K H b ys) (n1 : xs ≠ []) (n2 : ys ≠ []) (hz : xs.length + ys.length ≤ 100000) (q : ∀ l H1, Kp F0 H H1 → H1 l = some (.tup (xs ++ ys)) → Q (.ref l) H1) : rCatA K (.ref a) (.ref b) H Q :=
  ⟨a, b, xs, ys, rfl, rfl, ha, hb, Nat.le_trans hz (by decide), fun e => absurd e n1, fun _ e => absurd e n2, fun _ _ l hl => q l _ (Kp.new hl) upd_same⟩
theorem three_at {d : Int} (h0 : 0 ≤ d) (h1 : d < 3) (x y z : Int) : ∃ w, atI [V.int x, .int y, .int z] d = some (.int w) ∧ (w = x ∨ w = y ∨ w = z) := by
  have c3 : d = 0 ∨ d = 1 ∨ d = 2 := by omega
  rcases c3 with rfl | rfl | rfl
  · exact ⟨x, rfl, .inl rfl⟩
  · exact ⟨y, rfl, .inr (.inl rfl)⟩
  · exact ⟨z, rfl, .inr (.inr rfl)⟩
/-! ### t * 1 -/
theorem tuple_mul1 (l : Addr) (items : Array Value) (n : Nat) (dd : Option Addr) (sl : Array (Option Value)) (u : Tok) :
    Meets (Builtin.«tuple.__mul__» ⟨[.ref l, .int 1 u], []⟩) (fun _ R s => s.heap.get? l = some { cls := .type "tuple", dict := dd, data := .seq items n, slots := sl } ∧
      R (.ok (.ret (Value.ref l))) s) :=
  .of_wp fun prog w A R s h => by
    obtain ⟨hp, g, d, tk, os⟩ := s
    obtain ⟨hl, h⟩ := h
    have f1 := AutoSeq1.idx_int
    have c0 : (decide ((1 : Int) < -(2 ^ 63)) || decide ((1 : Int) ≥ 2 ^ 63)) = false := by decide
    have c1 : (items.isEmpty || (1 : Int) == 1) = true := by rw [show ((1 : Int) == 1) = true from rfl, Bool.or_true]
    wp_walk using PySem.AutoSeq1.wpAny_loadPart' hl
    exact ⟨_, rfl, h⟩
def rRepTT (K : PySem.W.Frag) : R2 := fun x y H Q => rRepT K x y H Q ∨ ∃ l xs, x = .ref l ∧ y = .int 1 ∧ SqT K H l xs ∧ Q (.ref l) H
open PySem.Spec PyProof.Rows in
theorem op_repTT {X : Cx} : OpR X (binaryOp .Mult) (rRepTT X.K) := by
  refine OpR.or op_repT ?_
  intro pins s σ H x y v u Q I rx ry h
  obtain ⟨l, xs, rfl, rfl, hT, q⟩ := h
  cases rx
  obtain ⟨t, rfl⟩ := ry
  obtain ⟨its, r, ⟨⟨cls, dd, data, sl⟩, ho, hc, n, hd⟩, hs⟩ := I.tuple hT
  simp only at hc hd
  subst hc hd
  refine wpAny_binaryOp_repeat_ref (T := "tuple") (U := "int") (by decide) ⟨_, ho, rfl⟩ (fun s' => typeIs_int s' 1 t) noFill_tuple_mul F.fills_int_mul F.slot_int_rmul repeat_tuple F.slot_int_index.lookup
    (call_meets F.slot_int_rmul (typeIs_int s 1 t) F.entry_int_rmul (F.args_int_rmul_2 _ _) (int_rmul_tuple 1 t l its.toArray n dd sl)
      ⟨ho, rfl, ⟨_, ho, rfl⟩, call_meets F.slot_tuple_mul ⟨_, ho, rfl⟩ F.entry_tuple_mul (F.args_tuple_mul_2 _ _) (tuple_mul1 l its.toArray n dd sl t) ⟨ho, ?_⟩⟩)
  exact ⟨.ref l, H, I, rfl, q⟩
theorem rep_oneT {α : Type} (x : α) : ∀ n : Nat, (List.replicate n [x]).flatten = List.replicate n x
  | 0 => rfl
  | n + 1 => by rw [List.replicate_succ, List.flatten_cons, rep_oneT x n, List.replicate_succ]; rfl
/-- (v,) * k -/
theorem x_rep1T {K : PySem.W.Frag} {H : Hp} {Q : VK} {l : Addr} {v : V} {k : Int} (h : SqT K H l [v]) (k1 : 1 ≤ k) (k2 : k ≤ 1000) (q : ∀ p H1, Kp F0 H H1 → SqT K H1 p (List.replicate k.toNat v) → Q (.ref p) H1) : rRepTT K (.ref l) (.int k) H Q := by
  by_cases e : k = 1
  · subst e
    exact .inr ⟨l, [v], rfl, rfl, h, q l H (Kp.refl _) h⟩
  · refine .inl ⟨l, k, [v], rfl, rfl, h, List.cons_ne_nil _ _, by omega, k2, Nat.le_of_ble_eq_true rfl, fun p hp => q p _ (Kp.new hp) (SqT.of ?_)⟩
    rw [upd_same, rep_oneT]
/-! ### items: entries are tuples on the heap -/
def ItW (K : PySem.W.Frag) (H : Hp) (v : V) (it : Itm) : Prop := ItV K H v it ∧ (it.x ≠ none → MdV K H v it)
abbrev ItWs (K : PySem.W.Frag) (H : Hp) (vs : List V) (its : List Itm) : Prop := Paired (ItW K H) vs its
theorem ItW.kp {K : PySem.W.Frag} {F : Addr → Prop} {H H' : Hp} {v : V} {it : Itm} (k : Kp F H H') (h : ItW K H v it) : ItW K H' v it := ⟨h.1.kp k, fun n => (h.2 n).kp k⟩
theorem ItW.three {K : PySem.W.Frag} {H : Hp} {v : V} {it : Itm} (h : ItW K H v it) : ∃ t r, v = .ref t ∧ SqT K H t (.int it.a :: .int it.b :: .int it.c :: r) ∧ r.length ≤ 2 := h.1.three
theorem chI_W {K : PySem.W.Frag} {H : Hp} {a b c : Int} {t : Addr} (h : SqT K H t [.int a, .int b, .int c]) : ItW K H (.ref t) (chI a b c) := ⟨chI_V h, fun n => absurd rfl n⟩
/-! ### the law's own tree: pages by number -/
structure MT where
  pg : Int → Option (Int × List Itm)
  many : Int
  free : List Int
  sz : Nat
def PgV (K : PySem.W.Frag) (H : Hp) (O : Addr → Prop) (fl : Addr) (v : V) (q : Int × List Itm) : Prop := ∃ t l ws, v = .ref t ∧ H t = some (.tup [.int q.1, .ref l]) ∧ H l = some (.lst ws) ∧ ItWs K H ws q.2 ∧ O l ∧ l ≠ fl
def PgO (K : PySem.W.Frag) (H : Hp) (O : Addr → Prop) (fl : Addr) : Option V → Option (Int × List Itm) → Prop
  | some v, some q => PgV K H O fl v q
  | none, none => True
  | _, _ => False
structure MtA (K : PySem.W.Frag) (O : Addr → Prop) (H : Hp) (m b fl : Addr) (kvs : List (Key × V)) (M : MT) : Prop where
  o : H m = some (.dK (RD_model (.ref b) (.int M.many) (.ref fl)))
  hb : H b = some (.dK kvs)
  fr : H fl = some (.lst (M.free.map V.int))
  ps : ∀ n, PgO K H O fl (valV kvs (.inl n)) (M.pg n)
  sz : kvs.length ≤ M.sz
  n1 : m ≠ b
  om : O m
  ob : O b
  of : O fl
def MtAt (K : PySem.W.Frag) (H : Hp) (m b fl : Addr) (O : Addr → Prop) (M : MT) : Prop := (∃ kvs, MtA K O H m b fl kvs M) ∧ ∀ b, O b → ∃ o, H b = some o
section
variable {K : PySem.W.Frag} {F O O0 O' : Addr → Prop} {H H' : Hp} {m b fl x : Addr} {kvs : List (Key × V)} {M : MT} {v : V} {q : Int × List Itm}
theorem PgV.kp (k : Kp F H H') (n : ∀ b o, O b → F b → H b = some o → b = fl) (h : PgV K H O fl v q) : PgV K H' O fl v q := by
  obtain ⟨t, l, ws, rfl, h1, h2, h3, h4, h5⟩ := h
  exact ⟨t, l, ws, rfl, k.tup h1, k.get h2 (fun z => h5 (n _ _ h4 z h2)), h3.mono fun _ _ z => z.kp k, h4, h5⟩
theorem PgO.map {H' : Hp} {O O' : Addr → Prop} {fl fl' : Addr} {a : Option V} {c : Option (Int × List Itm)} (g : ∀ v q, PgV K H O fl v q → PgV K H' O' fl' v q) (h : PgO K H O fl a c) : PgO K H' O' fl' a c := by
  cases a with
  | none => cases c with
    | none => trivial
    | some q => exact h
  | some v => cases c with
    | none => exact h
    | some q => exact g v q h
theorem MtA.at (D : MtA K O H m b fl kvs M) {n : Int} (e : M.pg n = some q) : ∃ v, valV kvs (.inl n) = some v ∧ PgV K H O fl v q := by
  have h := D.ps n
  rw [e] at h
  cases z : valV kvs (.inl n) with
  | none => rw [z] at h; exact h.elim
  | some v => rw [z] at h; exact ⟨v, rfl, h⟩
theorem MtA.no (D : MtA K O H m b fl kvs M) {n : Int} (e : M.pg n = none) : valV kvs (.inl n) = none := by
  have h := D.ps n
  rw [e] at h
  cases z : valV kvs (.inl n) with
  | none => rfl
  | some v => rw [z] at h; exact h.elim
theorem MtA.nmf (D : MtA K O H m b fl kvs M) : m ≠ fl := ne_of D.o D.fr (by intro z; cases z)
theorem MtA.nbf (D : MtA K O H m b fl kvs M) : b ≠ fl := ne_of D.hb D.fr (by intro z; cases z)
theorem MtA.off (k : Kp F H H') (D : MtA K O H m b fl kvs M) (n : ∀ b, F b → ¬ O b) : MtA K O H' m b fl kvs M :=
  ⟨k.get D.o fun z => n _ z D.om, k.get D.hb fun z => n _ z D.ob, k.get D.fr fun z => n _ z D.of, fun x => (D.ps x).map fun _ _ => PgV.kp k fun b _ o f _ => absurd o (n b f), D.sz, D.n1, D.om, D.ob, D.of⟩
theorem MtA.same (k : Kp F0 H H') (D : MtA K O H m b fl kvs M) : MtA K O H' m b fl kvs M := D.off k fun _ z => z.elim
theorem MtA.own (D : MtA K O H m b fl kvs M) (n : ∀ b, O b → O' b) : MtA K O' H m b fl kvs M :=
  ⟨D.o, D.hb, D.fr, fun x => (D.ps x).map fun _ _ ⟨t, l, ws, e, h1, h2, h3, h4, h5⟩ => ⟨t, l, ws, e, h1, h2, h3, n _ h4, h5⟩, D.sz, D.n1, n _ D.om, n _ D.ob, n _ D.of⟩
theorem MtAt.opn (h : MtAt K H m b fl O0 M) : ∃ (O : Addr → Prop) (kvs : List (Key × V)), O = (fun x => O0 x ∨ H x = none) ∧ MtA K O H m b fl kvs M ∧ O0 m ∧ O0 b ∧ O0 fl := by
  obtain ⟨⟨kvs, D⟩, _⟩ := h
  exact ⟨_, kvs, rfl, D.own fun _ z => .inl z, D.om, D.ob, D.of⟩
theorem MtA.clo (D : MtA K O H' m b fl kvs M) (e : O = fun x => O0 x ∨ H x = none) : MtAt K H' m b fl (nO O0 H H') M := by
  subst e
  exact ⟨⟨kvs, D.o, D.hb, D.fr, fun x => (D.ps x).map fun _ _ ⟨t, l, ws, e, h1, h2, h3, h4, h5⟩ => ⟨t, l, ws, e, h1, h2, h3, ⟨h4, _, h2⟩, h5⟩, D.sz, D.n1, ⟨D.om, _, D.o⟩, ⟨D.ob, _, D.hb⟩, ⟨D.of, _, D.fr⟩⟩, fun b z => z.2⟩
theorem MtAt.off (k : Kp F H H') (h : MtAt K H m b fl O M) (n : ∀ b, F b → ¬ O b) : MtAt K H' m b fl O M := by
  obtain ⟨⟨kvs, D⟩, t⟩ := h
  refine ⟨⟨kvs, D.off k n⟩, fun b z => ?_⟩
  obtain ⟨o, ho⟩ := t b z
  exact ⟨o, k.get ho fun y => n b y z⟩
theorem MtAt.same (k : Kp F0 H H') (h : MtAt K H m b fl O M) : MtAt K H' m b fl O M := h.off k fun _ z => z.elim
theorem MtAt.fresh (h : MtAt K H m b fl O M) (hb : H x = none) : ¬ O x := fun z => by
  obtain ⟨o, ho⟩ := h.2 x z
  rw [hb] at ho; cases ho
theorem MtAt.own (h : MtAt K H m b fl O M) (n : ∀ b, O b → O' b) (t : ∀ b, O' b → ∃ o, H b = some o) : MtAt K H m b fl O' M := by
  obtain ⟨⟨kvs, D⟩, _⟩ := h
  exact ⟨⟨kvs, D.own n⟩, t⟩
def mput (M : MT) (n : Int) (q : Int × List Itm) : MT := { M with pg := fun x => if x = n then some q else M.pg x, sz := M.sz + 1 }
def mtake (M : MT) : MT × Int := match M.free with
  | [] => ({ M with many := M.many + 1 }, M.many)
  | n :: r => ({ M with free := r }, n)
def mrel (M : MT) (n : Int) : MT := { M with pg := fun x => if x = n then none else M.pg x, free := n :: M.free }
theorem MtA.put {n : Int} (D : MtA K O H m b fl kvs M) (hv : PgV K H O fl v q) (k : Kp (F1 b) H H') (h : H' b = some (.dK (putK kvs (.inl n) v))) : MtA K O H' m b fl (putK kvs (.inl n) v) (mput M n q) := by
  have g : ∀ v q, PgV K H O fl v q → PgV K H' O fl v q := fun v q ⟨t, l, ws, e, h1, h2, h3, h4, h5⟩ => ⟨t, l, ws, e, k.tup h1, k.get h2 (ne_of h2 D.hb (by intro z; cases z)), h3.mono fun _ _ z => z.kp k, h4, h5⟩
  refine ⟨k.get D.o D.n1, h, k.get D.fr D.nbf.symm, fun x => ?_, Nat.le_trans (length_putK _ _ _) (Nat.succ_le_succ D.sz), D.n1, D.om, D.ob, D.of⟩
  rw [valV_put]
  by_cases e : x = n
  · subst e
    show PgO K H' O fl (if Sum.inl x = Sum.inl x then some v else _) (if x = x then some q else _)
    rw [if_pos rfl, if_pos rfl]
    exact g v q hv
  · show PgO K H' O fl (if (Sum.inl x : Key) = Sum.inl n then some v else _) (if x = n then some q else _)
    rw [if_neg (fun z => e (Sum.inl.inj z)), if_neg e]
    exact (D.ps x).map g
theorem valV_drop (kvs : List (Key × V)) (k j : Key) : valV (dropK kvs k) j = if j = k then none else valV kvs j := by
  unfold dropK
  induction kvs with
  | nil => rw [List.filter_nil, valV_nil]; split <;> rfl
  | cons p r ih =>
    by_cases e : p.1 = k
    · rw [List.filter_cons_of_neg (by simpa using e), ih]
      split
      · rfl
      · rename_i h
        rw [valV_neg fun z => h (z.symm.trans e)]
    · rw [List.filter_cons_of_pos (by simpa using e)]
      by_cases f : p.1 = j
      · rw [valV_pos f, valV_pos f, if_neg fun z => e (f.trans z)]
      · rw [valV_neg f, valV_neg f, ih]
theorem MtA.drop {n : Int} (D : MtA K O H m b fl kvs M) (k : Kp (F1 b) H H') (h : H' b = some (.dK (dropK kvs (.inl n)))) : MtA K O H' m b fl (dropK kvs (.inl n)) { M with pg := fun x => if x = n then none else M.pg x } := by
  have g : ∀ v q, PgV K H O fl v q → PgV K H' O fl v q := fun v q ⟨t, l, ws, e, h1, h2, h3, h4, h5⟩ => ⟨t, l, ws, e, k.tup h1, k.get h2 (ne_of h2 D.hb (by intro z; cases z)), h3.mono fun _ _ z => z.kp k, h4, h5⟩
  refine ⟨k.get D.o D.n1, h, k.get D.fr D.nbf.symm, fun x => ?_, Nat.le_trans (dropK_le _ _) D.sz, D.n1, D.om, D.ob, D.of⟩
  rw [valV_drop]
  by_cases e : x = n
  · subst e
    show PgO K H' O fl (if Sum.inl x = Sum.inl x then none else _) (if x = x then none else _)
    rw [if_pos rfl, if_pos rfl]
    trivial
  · show PgO K H' O fl (if (Sum.inl x : Key) = Sum.inl n then none else _) (if x = n then none else _)
    rw [if_neg (fun z => e (Sum.inl.inj z)), if_neg e]
    exact (D.ps x).map g
theorem MtA.many (D : MtA K O H m b fl kvs M) {z : Int} (k : Kp (F1 m) H H') (h : H' m = some (.dK (RD_model (.ref b) (.int z) (.ref fl)))) : MtA K O H' m b fl kvs { M with many := z } := by
  refine ⟨h, k.get D.hb D.n1.symm, k.get D.fr D.nmf.symm, fun x => (D.ps x).map fun v q ⟨t, l, ws, e, h1, h2, h3, h4, h5⟩ => ⟨t, l, ws, e, k.tup h1, k.get h2 (ne_of h2 D.o (by intro z; cases z)), h3.mono fun _ _ z => z.kp k, h4, h5⟩, D.sz, D.n1, D.om, D.ob, D.of⟩
theorem MtA.frees (D : MtA K O H m b fl kvs M) {r : List Int} (k : Kp (F1 fl) H H') (h : H' fl = some (.lst (r.map V.int))) : MtA K O H' m b fl kvs { M with free := r } :=
  ⟨k.get D.o D.nmf, k.get D.hb D.nbf, h, fun x => (D.ps x).map fun v q ⟨t, l, ws, e, h1, h2, h3, h4, h5⟩ => ⟨t, l, ws, e, k.tup h1, k.get h2 h5, h3.mono fun _ _ z => z.kp k, h4, h5⟩, D.sz, D.n1, D.om, D.ob, D.of⟩
theorem MtA.newfl (D : MtA K O H m b fl kvs M) {e : Addr} {r : List Int} (he : H e = none) (k : Kp (F1 m) H H') (h : H' m = some (.dK (RD_model (.ref b) (.int M.many) (.ref e)))) (h2 : H' e = some (.lst (r.map V.int))) (oe : O e) : MtA K O H' m b e kvs { M with free := r } :=
  ⟨h, k.get D.hb D.n1.symm, h2, fun x => (D.ps x).map fun v q ⟨t, l, ws, e', h1, h2, h3, h4, h5⟩ => ⟨t, l, ws, e', k.tup h1, k.get h2 (ne_of h2 D.o (by intro z; cases z)), h3.mono fun _ _ z => z.kp k, h4, ne_of_none h2 he⟩, D.sz, D.n1, D.om, D.ob, oe⟩
end
/-! ### what a step of the law's tree changes -/
def G3 (m b fl : Addr) : Addr → Prop := fun x => x = m ∨ x = b ∨ x = fl
structure St3 (m b fl : Addr) (O O' : Addr → Prop) (H H' : Hp) : Prop where
  kp : Kp (G3 m b fl) H H'
  gr : ∀ x, O' x → O x ∨ H x = none
  up : ∀ x, O x → O' x
section
variable {K : PySem.W.Frag} {F O O0 O1 O2 O' : Addr → Prop} {H H1 H2 H' : Hp} {m b fl x : Addr} {kvs : List (Key × V)} {M M' : MT} {v : V} {q : Int × List Itm}
theorem MtAt.own3 (h : MtAt K H m b fl O M) : ∀ x, G3 m b fl x → O x := fun x z => by
  obtain ⟨⟨kvs, D⟩, _⟩ := h
  rcases z with rfl | rfl | rfl
  · exact D.om
  · exact D.ob
  · exact D.of
theorem St3.stp (s : St3 m b fl O O' H H') (g : ∀ x, G3 m b fl x → O x) : Stp O O' H H' := ⟨s.kp.mono fun x z => .inl (g x z), s.gr⟩
theorem St3.pure (k : Kp F0 H H') : St3 m b fl O O H H' := ⟨k.mono fun _ z => z.elim, fun _ z => .inl z, fun _ z => z⟩
theorem St3.trans (s : St3 m b fl O O1 H H1) (t : St3 m b fl O1 O2 H1 H2) (g : ∀ x, G3 m b fl x → O x) : St3 m b fl O O2 H H2 :=
  ⟨s.kp.trans t.kp fun _ z => .inl z, fun x z => by
    rcases t.gr x z with y | y
    · exact s.gr x y
    · by_cases f : G3 m b fl x
      · exact .inl (g x f)
      · exact .inr (s.kp.free y f), fun x z => t.up x (s.up x z)⟩
/-- the end of a function that opened the tree at H -/
theorem MtA.fin (D : MtA K O H' m b fl kvs M) (h : MtAt K H m b fl O0 M') (e : O = fun x => O0 x ∨ H x = none) (k : Kp (G3 m b fl) H H') : MtAt K H' m b fl (nO O0 H H') M ∧ St3 m b fl O0 (nO O0 H H') H H' := by
  refine ⟨D.clo e, k, fun _ z => z.1, fun x z => ⟨.inl z, ?_⟩⟩
  obtain ⟨o, ho⟩ := h.2 x z
  by_cases f : G3 m b fl x
  · rcases f with rfl | rfl | rfl
    · exact ⟨_, D.o⟩
    · exact ⟨_, D.hb⟩
    · exact ⟨_, D.fr⟩
  · exact ⟨o, k.get ho f⟩
theorem PgV.st (h : PgV K H O fl v q) (s : St3 m b fl O O' H H') (D : MtA K O H m b fl kvs M) : PgV K H' O' fl v q := by
  obtain ⟨t, l, ws, e, h1, h2, h3, h4, h5⟩ := h
  refine ⟨t, l, ws, e, s.kp.tup h1, s.kp.get h2 fun z => ?_, h3.mono fun _ _ z => z.kp s.kp, s.up _ h4, h5⟩
  rcases z with z | z | z
  · exact ne_of h2 D.o (by intro z; cases z) z
  · exact ne_of h2 D.hb (by intro z; cases z) z
  · exact h5 z
theorem PgV.pure (h : PgV K H O fl v q) (k : Kp F0 H H') : PgV K H' O fl v q := h.kp k fun _ _ _ z _ => z.elim
/-- a page is stored -/
theorem MtA.store {n : Int} (D : MtA K O H m b fl kvs M) (tr : ∀ x, O x → ∃ o, H x = some o) (hv : PgV K H O fl v q) (k : Kp (F1 b) H H') (h : H' b = some (.dK (putK kvs (.inl n) v))) : MtAt K H' m b fl O (mput M n q) ∧ St3 m b fl O O H H' := by
  refine ⟨⟨⟨_, D.put hv k h⟩, fun x z => ?_⟩, k.mono fun x z => .inl (.inr (.inl z)), fun _ z => .inl z, fun _ z => z⟩
  obtain ⟨o, ho⟩ := tr x z
  by_cases e : x = b
  · rw [e]; exact ⟨_, h⟩
  · exact ⟨o, k.get ho e⟩
/-- a new list joins -/
theorem MtAt.join {l : Addr} (h : MtAt K H m b fl O M) (k : Kp F0 H H') (hl : H l = none) (t : ∃ o, H' l = some o) : MtAt K H' m b fl (fun x => O x ∨ x = l) M ∧ St3 m b fl O (fun x => O x ∨ x = l) H H' ∧ l ≠ fl := by
  obtain ⟨⟨kvs, D⟩, tr⟩ := h
  refine ⟨⟨⟨kvs, (D.same k).own fun _ z => .inl z⟩, fun x z => ?_⟩, ⟨k.mono fun _ z => z.elim, fun x z => ?_, fun _ z => .inl z⟩, (ne_of_none D.fr hl).symm⟩
  · rcases z with z | z
    · obtain ⟨o, ho⟩ := tr x z
      exact ⟨o, k.get ho id⟩
    · rw [z]; exact t
  · rcases z with z | z
    · exact .inl z
    · exact .inr (by rw [z]; exact hl)
end
/-! ### d.pop(k) -/
def rDPop1 (x : V) (H : Hp) (R : Addr → Prop) : Prop := ∃ a, x = .ref a ∧ IsD H a ∧ R a
theorem x_tdp1 {σ : L2.St} {H : Hp} {Q : VK} {td ty : TE} (h : td σ H fun x H1 => rDPop1 x H1 fun a => ty σ H1 fun y H2 => ∃ kvs k v, H2 a = some (.dK kvs) ∧ y = kV k ∧ valV kvs k = some v ∧ Q v (upd H2 a (.dK (dropK kvs k)))) : tDPop1 td ty σ H Q := h
theorem x_dp1 {H : Hp} {a : Addr} {kvs : List (Key × V)} {R : Addr → Prop} (h : H a = some (.dK kvs)) (q : R a) : rDPop1 (.ref a) H R := ⟨a, rfl, .inl ⟨kvs, .inl h⟩, q⟩
section
variable {P : Program} {w : World} {K : PySem.W.Frag} {mg : Str → Option Value} {base : Heap} {c : Cl}
def sp_bytes17 : Sp := fun vs H Q _ => ∃ (k : Nat) (n : Int), vs = [.int n, .int k] ∧ k ≤ 8 ∧ ∀ p H', H p = none → Kp F0 H H' → H' p = some (.lst ((wn k n).map V.int)) → Q (.ref p) H'
theorem ok__law_bytes (T : Txt K mg c) : GF P w K mg base CX0 1 "_law_bytes" sp_bytes17 := by
  obtain ⟨f, fd, F, gm⟩ := T.f__law_bytes
  refine ⟨f, fd, ["_law_number", "_law_width"], F.ok sc__law_bytes ?_ (fun cdv A outer s H vs Q E hr h => ?_), gm, F.kp, (F.binds (ps := ["_law_number", "_law_width"]) fun _ _ _ _ _ _ us hl => match us, hl with | [_, _], _ => rfl)⟩
  · rintro vs H Q E ⟨_, _, rfl, _⟩
    rfl
  · obtain ⟨n, z, rfl, hn, k⟩ := h
    refine ⟨_, (pss_one (ps_ret (pe_lc (own := [("_law_k", 2)]) (g := (gName 2)) (tt := tYes) rfl sc__law_bytes.nd (pi_range1 (by rfl) T.z_range (pa_cons (pv 1) pa_nil)) (blkOk_by (N := ["_law_number", "_law_width", "_law_k"]) (sc := defScope s__law_bytes) (by decide +kernel)) (fun _ _ _ _ _ => (pg_name (i := 2) sc__law_bytes.nd rfl (Or.inl rfl))) (fun _ _ _ _ _ => pts_nil) (fun _ _ _ _ _ => (pe_op o_and (pe_op op_shr (pv 0) (pe_op op_mul pe_int (pe_op op_sub (pe_op op_sub (pv 1) pe_int) (pv 2)))) pe_int))))), ?_⟩
    walk_at "cx"
    walk_at "rd"
    refine wlcP (ys := (wn n z).map V.int) Wk.rng (by rw [List.length_map, rgl_len, wn_len]; rfl) (by rw [rgl_len]; omega) (fun _ _ => trivial) (fun i x y H' R ex ey kp hR => ?_) (fun D H1 hD kp hDl => k D H1 hD kp hDl)
    obtain ⟨hi, rfl⟩ := rgl_at ex
    have hi' : i < n := hi
    rw [List.getElem?_map, wn_get hi'] at ey
    cases ey
    walk_at "rd"
    refine ⟨rfl, ?_⟩
    walk_at "rd"
    have e : 8 * ((n : Int) - 1 - (0 + (i : Nat))) = ((8 * (n - 1 - i) : Nat) : Int) := by omega
    have q := hR H' (Kp.refl _)
    rw [← pow_256] at q
    rw [e]
    exact q
theorem wp_take {pt : List Int} {i : Nat} {x : Int} (e : pt[i]? = some x) : wp (pt.take (i + 1)) = wp (pt.take i) ++ wn 2 (x + 32768) := by
  rw [List.take_succ, e]
  unfold wp
  rw [List.flatMap_append]
  show _ ++ [x].flatMap _ = _
  rw [List.flatMap_cons, List.flatMap_nil, List.append_nil]
def sp_entry17 (K : PySem.W.Frag) : Sp := fun vs H Q _ => ∃ v it pt pl, vs = [v] ∧ ItV K H v it ∧ it.x = some (pt, pl) ∧ pt.length ≤ 1000 ∧ pl.length ≤ 1000 ∧ ∀ b H', H b = none → Kp F0 H H' → H' b = some (.lst ((encI it).map V.int)) → Q (.ref b) H'
theorem ok__law_entry (T : Txt K mg c) : GF P w K mg base CX0 2 "_law_entry" (sp_entry17 K) := by
  obtain ⟨f, fd, F, gm⟩ := T.f__law_entry
  refine ⟨f, fd, ["_law_entry_here"], F.ok sc__law_entry ?_ (fun cdv A outer s H vs Q E hr h => ?_), gm, F.kp, (F.binds (ps := ["_law_entry_here"]) fun _ _ _ _ _ _ us hl => match us, hl with | [_], _ => rfl)⟩
  · rintro vs H Q E ⟨_, _, _, _, rfl, _⟩
    rfl
  · obtain ⟨v, it, pt, pl, rfl, ⟨t, rfl, hv⟩, ex, l1, l2, k⟩ := h
    rw [ex] at hv
    obtain ⟨p1, p2, ht, h1, h2⟩ := hv
    refine ⟨_, (pss_cons (ps_set (i := 1) sc__law_entry.nd rfl (Or.inl rfl) (pe_op op_cat (pe_op op_cat (pe_g (ok__law_bytes T) (hr.mono (by decide)) pass0S (pa_cons (pe_ix (r := rIxT K) ix_tup (pv 0) pe_int (fun _ _ => rfl)) (pa_cons pe_int pa_nil))) (pe_g (ok__law_bytes T) (hr.mono (by decide)) pass0S (pa_cons (pe_ix (r := rIxT K) ix_tup (pv 0) pe_int (fun _ _ => rfl)) (pa_cons pe_int pa_nil)))) (pe_g (ok__law_bytes T) (hr.mono (by decide)) pass0S (pa_cons (pe_ix (r := rIxT K) ix_tup (pv 0) pe_int (fun _ _ => rfl)) (pa_cons pe_int pa_nil)))))
      (pss_cons (ps_for PassesOwn.never rfl (pi_tupK rfl (pe_ix (r := rIxT K) ix_tup (pv 0) pe_int (fun _ _ => rfl))) (pg_name (i := 2) sc__law_entry.nd rfl (Or.inl rfl)) (pss_one (ps_set (i := 1) sc__law_entry.nd rfl (Or.inl rfl) (pe_op op_cat (pv 1) (pe_g (ok__law_bytes T) (hr.mono (by decide)) pass0S (pa_cons (pe_op op_add (pv 2) pe_int) (pa_cons pe_int pa_nil)))))))
      (pss_one (ps_ret (pe_op op_cat (pe_op op_cat (pv 1) (pe_lst (pa_cons (pe_callB (r := rLenQ K) c_len (by rfl) T.z_len PySem.boot_len (pa_cons (pe_ix (r := rIxT K) ix_tup (pv 0) pe_int (fun _ _ => rfl)) pa_nil)) pa_nil))) (pe_callTy (r := rLstQ K) c_list (by rfl) T.z_list (by decide +kernel) (pa_cons (pe_ix (r := rIxT K) ix_tup (pv 0) pe_int (fun _ _ => rfl)) pa_nil))))))), ?_⟩
    walk_at "cx"
    walk_at "rd"
    refine ⟨4, it.a, rfl, by decide, fun b1 H1 hb1 k1 e1 => ?_⟩
    have ht1 := k1.sqT ht
    walk_at "rd"
    refine ⟨4, it.b, rfl, by decide, fun b2 H2 hb2 k2 e2 => ?_⟩
    walk_at "rd"
    refine x_catL (k2.get e1 id) e2 (by rw [List.length_map, List.length_map, wn_len, wn_len, sizeLine_eq]; omega) fun b3 H3 hb3 k3 e3 => ?_
    have ht3 := k3.sqT (k2.sqT ht1)
    walk_at "rd"
    refine ⟨4, it.c, rfl, by decide, fun b4 H4 hb4 k4 e4 => ?_⟩
    walk_at "rd"
    refine x_catL (k4.get e3 id) e4 (by simp only [List.length_append, List.length_map, wn_len, sizeLine_eq]; omega) fun b5 H5 hb5 k5 e5 => ?_
    have k35 : Kp F0 H3 H5 := k4.trans k5 fun _ z => z.elim
    have k05 : Kp F0 H H5 := (((k1.trans k2 fun _ z => z.elim).trans k3 fun _ z => z.elim)).trans k35 fun _ z => z.elim
    have ht5 := k35.sqT ht3
    have h15 := k05.sqT h1
    rw [← List.map_append, ← List.map_append] at e5
    walk_at "rd"
    refine wfor (Wk.tup (xs := pt.map V.int)) (fun i σ H' => ∃ d u, σ = [some (.ref t), some (.ref d), u] ∧ H' d = some (.lst ((wn 4 it.a ++ wn 4 it.b ++ wn 4 it.c ++ wp (pt.take i)).map V.int)) ∧ H d = none ∧ Kp F0 H5 H')
      ⟨b5, none, rfl, by rw [List.take_zero]; unfold wp; rw [List.flatMap_nil, List.append_nil]; exact e5, ((((k1.trans k2 fun _ z => z.elim).trans k3 fun _ z => z.elim)).trans k4 fun _ z => z.elim).free hb5 id, Kp.refl _⟩ (fun i σ H' ⟨_, _, _, _, _, kk⟩ => kk.sqT h15) ?_ ?_
    · rintro i x σ H6 exi ⟨d, u, rfl, e6, fd6, k6⟩
      rw [List.getElem?_map] at exi
      cases epi : pt[i]? with
      | none => rw [epi] at exi; cases exi
      | some y =>
        rw [epi] at exi
        cases exi
        have li : i < pt.length := (List.getElem?_eq_some_iff.mp epi).1
        walk_at "rd"
        refine ⟨2, y + 32768, rfl, by decide, fun b7 H7 hb7 k7 e7 => ?_⟩
        walk_at "rd"
        refine x_catL (k7.get e6 id) e7 (by simp only [List.length_append, List.length_map, wn_len, wp_len, List.length_take, sizeLine_eq]; omega) fun b8 H8 hb8 k8 e8 => ?_
        refine ⟨b8, _, rfl, ?_, k05.free ((k6.trans k7 fun _ z => z.elim).free hb8 id) id, (k6.trans k7 fun _ z => z.elim).trans k8 fun _ z => z.elim⟩
        rw [e8, wp_take epi, ← List.map_append, List.append_assoc]
    · rintro σ H6 ⟨d, u, rfl, e6, fd6, k6⟩
      rw [List.length_map, List.take_length] at e6
      have ht6 := k6.sqT ht5
      have h26 := k6.sqT (k05.sqT h2)
      walk_at "rd"
      rw [List.length_map]
      refine x_newL fun b7 H7 hb7 k7 e7 => ?_
      walk_at "rd"
      refine x_catL (k7.get e6 id) e7 (by simp only [List.length_append, List.length_map, wn_len, wp_len, sizeLine_eq, List.length_cons, List.length_nil]; omega) fun b8 H8 hb8 k8 e8 => ?_
      have k68 : Kp F0 H6 H8 := k7.trans k8 fun _ z => z.elim
      have ht8 := k68.sqT ht6
      walk_at "rd"
      refine x_lstT (k68.sqT h26) fun b9 H9 hb9 k9 e9 => ?_
      walk_at "rd"
      refine x_catL (k9.get e8 id) e9 (by simp only [List.length_append, List.length_map, wn_len, wp_len, sizeLine_eq, List.length_cons, List.length_nil]; omega) fun b10 H10 hb10 k10 e10 => ?_
      have k09 : Kp F0 H H9 := (k05.trans k6 fun _ z => z.elim).trans (k68.trans k9 fun _ z => z.elim) fun _ z => z.elim
      refine k b10 H10 (k09.free hb10 id) (k09.trans k10 fun _ z => z.elim) ?_
      rw [e10]
      unfold encI
      rw [ex]
      unfold tailI
      simp only [List.map_append, List.map_cons, List.map_nil, List.append_assoc, List.singleton_append, List.cons_append, List.nil_append]
def sp_child17 (K : PySem.W.Frag) : Sp := fun vs H Q _ => ∃ v it, vs = [v] ∧ ItV K H v it ∧ it.x = none ∧ ∀ b H', H b = none → Kp F0 H H' → H' b = some (.lst ((encI it).map V.int)) → Q (.ref b) H'
theorem ok__law_child (T : Txt K mg c) : GF P w K mg base CX0 2 "_law_child" (sp_child17 K) := by
  obtain ⟨f, fd, F, gm⟩ := T.f__law_child
  refine ⟨f, fd, ["_law_child_here"], F.ok sc__law_child ?_ (fun cdv A outer s H vs Q E hr h => ?_), gm, F.kp, (F.binds (ps := ["_law_child_here"]) fun _ _ _ _ _ _ us hl => match us, hl with | [_], _ => rfl)⟩
  · rintro vs H Q E ⟨_, _, rfl, _⟩
    rfl
  · obtain ⟨v, it, rfl, ⟨t, rfl, ht⟩, ex, k⟩ := h
    rw [ex] at ht
    refine ⟨_, (pss_one (ps_ret (pe_op op_cat (pe_op op_cat (pe_g (ok__law_bytes T) (hr.mono (by decide)) pass0S (pa_cons (pe_ix (r := rIxT K) ix_tup (pv 0) pe_int (fun _ _ => rfl)) (pa_cons pe_int pa_nil))) (pe_g (ok__law_bytes T) (hr.mono (by decide)) pass0S (pa_cons (pe_ix (r := rIxT K) ix_tup (pv 0) pe_int (fun _ _ => rfl)) (pa_cons pe_int pa_nil)))) (pe_g (ok__law_bytes T) (hr.mono (by decide)) pass0S (pa_cons (pe_ix (r := rIxT K) ix_tup (pv 0) pe_int (fun _ _ => rfl)) (pa_cons pe_int pa_nil)))))), ?_⟩
    walk_at "cx"
    walk_at "rd"
    refine ⟨4, it.a, rfl, by decide, fun b1 H1 hb1 k1 e1 => ?_⟩
    have ht1 := k1.sqT ht
    walk_at "rd"
    refine ⟨4, it.b, rfl, by decide, fun b2 H2 hb2 k2 e2 => ?_⟩
    walk_at "rd"
    refine x_catL (k2.get e1 id) e2 (by rw [List.length_map, List.length_map, wn_len, wn_len, sizeLine_eq]; omega) fun b3 H3 hb3 k3 e3 => ?_
    have ht3 := k3.sqT (k2.sqT ht1)
    walk_at "rd"
    refine ⟨4, it.c, rfl, by decide, fun b4 H4 hb4 k4 e4 => ?_⟩
    walk_at "rd"
    refine x_catL (k4.get e3 id) e4 (by simp only [List.length_append, List.length_map, wn_len, sizeLine_eq]; omega) fun b5 H5 hb5 k5 e5 => ?_
    have k04 : Kp F0 H H4 := ((k1.trans k2 fun _ z => z.elim).trans k3 fun _ z => z.elim).trans k4 fun _ z => z.elim
    refine k b5 H5 (k04.free hb5 id) (k04.trans k5 fun _ z => z.elim) ?_
    rw [e5]
    unfold encI
    rw [ex]
    simp only [tailI, List.map_append, List.append_nil]
def PartV (D : Addr) (H : Hp) (v : V) (it : Itm) : Prop := ∃ l, v = .ref l ∧ H l = some (.lst ((encI it).map V.int)) ∧ l ≠ D
theorem PartV.kp {D : Addr} {F : Addr → Prop} {H H' : Hp} {v : V} {it : Itm} (k : Kp F H H') (n : ∀ b, F b → b = D) (h : PartV D H v it) : PartV D H' v it := by
  obtain ⟨l, e, h, g⟩ := h
  exact ⟨l, e, k.get h fun z => g (n _ z), g⟩
def sp_parts17 (K : PySem.W.Frag) : Sp := fun vs H Q _ => ∃ t l ws kd its, vs = [.ref t] ∧ SqT K H t [.int kd, .ref l] ∧ H l = some (.lst ws) ∧ ItWs K H ws its ∧ (∀ it ∈ its, KdI kd it) ∧ (kd = 1 ∨ kd = 2) ∧ its.length ≤ 1000 ∧
  ∀ b us H', H b = none → Kp F0 H H' → H' b = some (.lst us) → Paired (PartV b H') us its → Q (.ref b) H'
theorem ok__law_parts (T : Txt K mg c) : GF P w K mg base CX0 3 "_law_parts" (sp_parts17 K) := by
  obtain ⟨f, fd, F, gm⟩ := T.f__law_parts
  refine ⟨f, fd, ["_law_page_here"], F.ok sc__law_parts ?_ (fun cdv A outer s H vs Q E hr h => ?_), gm, F.kp, (F.binds (ps := ["_law_page_here"]) fun _ _ _ _ _ _ us hl => match us, hl with | [_], _ => rfl)⟩
  · rintro vs H Q E ⟨_, _, _, _, _, rfl, _⟩
    rfl
  · obtain ⟨t, l, ws, kd, its, rfl, ht, hl, hv, hkd, kk, lz, k⟩ := h
    have lv := hv.length
    have fin : ∀ (R : V → Hp → Prop) (H4 : Hp) D' i acc H' (it : Itm) b, its[i]? = some it → H' D' = some (.lst acc) → Paired (PartV D' H') acc (its.take i) → (∀ y H4, Kp F0 H' H4 → Paired (PartV D' H4) (acc ++ [y]) (its.take (i + 1)) → R y H4) → H' b = none → Kp F0 H' H4 → H4 b = some (.lst ((encI it).map V.int)) → R (.ref b) H4 := fun R H4 D' i acc H' it b ei hacc pv hR hb k4 e4 => by
      refine hR _ H4 k4 ?_
      rw [List.take_succ, ei]
      exact pr_app (pv.mono fun _ _ z => z.kp k4 fun _ z => z.elim) (.cons ⟨b, rfl, e4, (ne_of_none hacc hb).symm⟩ .nil)
    refine ⟨_, (pss_cons (ps_if (pt_cmpR op_eq (pe_ix (r := rIxT K) ix_tup (pv 0) pe_int (fun _ _ => rfl)) pe_int (nomark _)) (pss_one (ps_ret (pe_lc (own := [("_law_entry_here", 1)]) (g := (gName 1)) (tt := tYes) rfl sc__law_parts.nd (pi_listK rfl (pe_ix (r := rIxT K) ix_tup (pv 0) pe_int (fun _ _ => rfl))) (blkOk_by (N := ["_law_page_here", "_law_entry_here", "_law_child_here"]) (sc := defScope s__law_parts) (by decide +kernel)) (fun _ _ _ _ _ => (pg_name (i := 1) sc__law_parts.nd rfl (Or.inl rfl))) (fun _ _ _ _ _ => pts_nil) (fun _ _ _ _ _ => (pe_g (ok__law_entry T) (hr.mono (by decide)) pass0S (pa_cons (pv 1) pa_nil)))))) pss_nil)
      (pss_one (ps_ret (pe_lc (own := [("_law_child_here", 2)]) (g := (gName 2)) (tt := tYes) rfl sc__law_parts.nd (pi_listK rfl (pe_ix (r := rIxT K) ix_tup (pv 0) pe_int (fun _ _ => rfl))) (blkOk_by (N := ["_law_page_here", "_law_entry_here", "_law_child_here"]) (sc := defScope s__law_parts) (by decide +kernel)) (fun _ _ _ _ _ => (pg_name (i := 2) sc__law_parts.nd rfl (Or.inl rfl))) (fun _ _ _ _ _ => pts_nil) (fun _ _ _ _ _ => (pe_g (ok__law_child T) (hr.mono (by decide)) pass0S (pa_cons (pv 2) pa_nil))))))), ?_⟩
    walk_at "cx"
    walk_at "rd"
    rcases kk with rfl | rfl
    · rw [decide_eq_true rfl]
      walk_at "rd"
      refine wlcH (Wk.list (xs := ws)) F0 (fun D' i acc H' => Paired (PartV D' H') acc (its.take i)) (fun b z => z.elim) (by omega) (fun D' i acc H' _ s => SqL.of (s.get hl id)) (fun _ _ => .nil) (fun D' i acc H' H4 k h => h.mono fun _ _ z => z.kp k fun _ z => z) (fun D' i x acc H' R R0 ex hD' hacc pv kp hR hR0 => ?_) (fun z H3 acc hz hz3 pv k3 => ?_)
      · obtain ⟨it, ei, hit⟩ := pgt hv ex
        rcases hkd it (List.mem_of_getElem? ei) with ⟨_, pt, pl, epp, z1, z2⟩ | ⟨z, _⟩
        · walk_at "rd"
          refine ⟨rfl, ?_⟩
          walk_at "rd"
          exact ⟨x, it, pt, pl, rfl, (hit.kp kp).1, epp, z1, z2, fun b H4 hb k4 e4 => fin R H4 D' i acc H' it b ei hacc pv hR hb k4 e4⟩
        · exact absurd z (by decide)
      · rw [lv, List.take_length] at pv
        exact k z acc H3 hz k3 hz3 pv
    · rw [decide_eq_false (by decide)]
      walk_at "rd"
      refine wlcH (Wk.list (xs := ws)) F0 (fun D' i acc H' => Paired (PartV D' H') acc (its.take i)) (fun b z => z.elim) (by omega) (fun D' i acc H' _ s => SqL.of (s.get hl id)) (fun _ _ => .nil) (fun D' i acc H' H4 k h => h.mono fun _ _ z => z.kp k fun _ z => z) (fun D' i x acc H' R R0 ex hD' hacc pv kp hR hR0 => ?_) (fun z H3 acc hz hz3 pv k3 => ?_)
      · obtain ⟨it, ei, hit⟩ := pgt hv ex
        rcases hkd it (List.mem_of_getElem? ei) with ⟨z, _⟩ | ⟨_, epp⟩
        · exact absurd z (by decide)
        · walk_at "rd"
          refine ⟨rfl, ?_⟩
          walk_at "rd"
          exact ⟨x, it, rfl, (hit.kp kp).1, epp, fun b H4 hb k4 e4 => fin R H4 D' i acc H' it b ei hacc pv hR hb k4 e4⟩
      · rw [lv, List.take_length] at pv
        exact k z acc H3 hz k3 hz3 pv
def sp_taken17 (K : PySem.W.Frag) : Sp := fun vs H Q _ => ∃ m b fl O M, vs = [.ref m] ∧ MtAt K H m b fl O M ∧ ∀ H' O', MtAt K H' m b fl O' (mtake M).1 → St3 m b fl O O' H H' → Q (.int (mtake M).2) H'
theorem ok__law_taken (T : Txt K mg c) : GF P w K mg base CX0 1 "_law_taken" (sp_taken17 K) := by
  obtain ⟨f, fd, F, gm⟩ := T.f__law_taken
  refine ⟨f, fd, ["_law_model"], F.ok sc__law_taken ?_ (fun cdv A outer s H vs Q E hr h => ?_), gm, F.kp, (F.binds (ps := ["_law_model"]) fun _ _ _ _ _ _ us hl => match us, hl with | [_], _ => rfl)⟩
  · rintro vs H Q E ⟨_, _, _, _, _, rfl, _⟩
    rfl
  · obtain ⟨m, b, fl, O0, M, rfl, hM, k⟩ := h
    obtain ⟨O, kvs, eO, D, om, ob, of⟩ := hM.opn
    have hm := D.o
    have hfl := D.fr
    refine ⟨_, (pss_cons (ps_set (i := 1) sc__law_taken.nd rfl (Or.inl rfl) (pe_dget (hu_of hr) (pv 0) pe_str (fun _ _ => rfl)))
      (pss_cons (ps_if (pt_cmpR op_gt (pe_callB (r := rLenQ K) c_len (by rfl) T.z_len PySem.boot_len (pa_cons (pe_dget (hu_of hr) (pv 0) pe_str (fun _ _ => rfl)) pa_nil)) pe_int (nomark _)) (pss_one (ps_ret (pe_kBM rfl (pe_bm PySem.F.plainAttrs_list PySem.F.slot_list_pop PySem.F.type_list_pop mt_popAt (pe_dget (hu_of hr) (pv 0) pe_str (fun _ _ => rfl)) (pa_cons pe_int pa_nil))))) pss_nil)
      (pss_cons (ps_dput (hu_of hr) (pv 0) pe_str (pe_op op_add (pv 1) pe_int) rfl)
      (pss_one (ps_ret (pv 1)))))), ?_⟩
    walk_at "cx"
    walk_at "rd"
    rw [List.length_map]
    cases ef : M.free with
    | nil =>
      have e : mtake M = ({ M with many := M.many + 1 }, M.many) := by
        unfold mtake
        split
        · rfl
        · rename_i h; rw [ef] at h; cases h
      rw [e] at k
      rw [decide_eq_false (by decide)]
      walk_at "rd"
      intro H1 e1 k1
      walk_at "rd"
      obtain ⟨f1, f2⟩ := (D.many k1 e1).fin hM eO (k1.mono fun x z => .inl (.inl z))
      exact k H1 _ f1 f2
    | cons n r =>
      have e : mtake M = ({ M with free := r }, n) := by
        unfold mtake
        split
        · rename_i h; rw [ef] at h; cases h
        · rename_i h; rw [ef] at h; cases h; rfl
      rw [e] at k
      rw [decide_eq_true (by rw [List.length_cons]; omega)]
      rw [ef, List.map_cons] at hfl
      walk_at "rd"
      refine ⟨fl, .int n :: r.map V.int, 0, 0, .int n, rfl, rfl, hfl, by decide, by decide, seqIx (i := 0) (by simp), rfl, ?_⟩
      rw [List.eraseIdx_cons_zero]
      obtain ⟨f1, f2⟩ := (D.frees (Kp.put hfl id) upd_same).fin hM eO ((Kp.put hfl id).mono fun x z => .inl (.inr (.inr z)))
      exact k _ _ f1 f2
def sp_released17 (K : PySem.W.Frag) : Sp := fun vs H Q _ => ∃ (m b fl : Addr) (O : Addr → Prop) (M : MT) (n : Int) (q : Int × List Itm), vs = [.ref m, .int n] ∧ MtAt K H m b fl O M ∧ M.pg n = some q ∧ M.free.length ≤ 1000000 ∧ ∀ H' O' fl', H fl' = none → MtAt K H' m b fl' O' (mrel M n) → St3 m b fl O O' H H' → Q .non H'
theorem ok__law_released (T : Txt K mg c) : GF P w K mg base CX0 1 "_law_released" (sp_released17 K) := by
  obtain ⟨f, fd, F, gm⟩ := T.f__law_released
  refine ⟨f, fd, ["_law_model", "_law_number"], F.ok sc__law_released ?_ (fun cdv A outer s H vs Q E hr h => ?_), gm, F.kp, (F.binds (ps := ["_law_model", "_law_number"]) fun _ _ _ _ _ _ us hl => match us, hl with | [_, _], _ => rfl)⟩
  · rintro vs H Q E ⟨_, _, _, _, _, _, _, rfl, _⟩
    rfl
  · obtain ⟨m, b, fl, O0, M, n, q, rfl, hM, eq, lf, k⟩ := h
    obtain ⟨O, kvs, eO, D, om, ob, of⟩ := hM.opn
    have hm := D.o
    have hb := D.hb
    obtain ⟨v, ev, _⟩ := D.at eq
    refine ⟨_, (pss_cons (ps_set (i := 2) sc__law_released.nd rfl (Or.inl rfl) (pe_dget (hu_of hr) (pv 0) pe_str (fun _ _ => rfl)))
      (pss_cons (ps_expr (pe_dpop1 (pv 2) (pv 1) ⟨rfl, rfl, rfl, rfl⟩))
      (pss_one (ps_dput (hu_of hr) (pv 0) pe_str (pe_op op_cat (pe_lst (pa_cons (pv 1) pa_nil)) (pe_dget (hu_of hr) (pv 0) pe_str (fun _ _ => rfl))) rfl)))), ?_⟩
    walk_at "cx"
    walk_at "rd"
    refine x_tdp1 ?_
    walk_at "rd"
    refine x_dp1 hb ?_
    walk_at "rd"
    refine ⟨kvs, .inl n, v, hb, rfl, ev, ?_⟩
    have k1 : Kp (F1 b) H (upd H b (.dK (dropK kvs (.inl n)))) := Kp.put hb id
    have e1 : (upd H b (.dK (dropK kvs (.inl n))) : Hp) b = some (.dK (dropK kvs (.inl n))) := upd_same
    generalize upd H b (.dK (dropK kvs (.inl n))) = H1 at k1 e1 ⊢
    have D1 := D.drop k1 e1
    have hm1 := D1.o
    have hfl1 := D1.fr
    walk_at "rd"
    refine x_newL fun l2 H2 hl2 k2 e2 => ?_
    have D2 := D1.same k2
    have hm2 := D2.o
    have hfl2 := D2.fr
    walk_at "rd"
    refine x_catL e2 hfl2 (by rw [List.length_map, List.length_singleton, sizeLine_eq]; show 1 + M.free.length ≤ _; omega) fun l3 H3 hl3 k3 e3 => ?_
    have D3 := D2.same k3
    have hm3 := D3.o
    walk_at "rd"
    intro H4 e4 k4
    have e34 : H4 l3 = some (.lst ((n :: M.free).map V.int)) := k4.get e3 (ne_of hm3 e3 (by intro z; cases z)).symm
    have fr30 : H l3 = none := by
      have : H2 l3 = none := hl3
      cases hh : H l3 with
      | none => rfl
      | some o =>
        by_cases q : l3 = b
        · rw [q, D2.hb] at this; cases this
        · rw [k2.get (k1.get hh q) id] at this; cases this
    have fr3 : O l3 := by rw [eO]; exact .inr fr30
    have k14 : Kp (F1 m) H1 H4 := ((k2.trans k3 fun _ z => z.elim).mono fun _ z => z.elim).trans k4 fun _ z => .inl z
    have k04 : Kp (fun x => x = m ∨ x = b) H H4 := (k1.mono fun b z => .inl (.inr z)).trans k14 fun b z => .inl (.inl z)
    have h3l : H1 l3 = none := k2.free hl3 id
    have D4 := D1.newfl h3l k14 e4 e34 fr3
    walk_at "rd"
    refine k H4 _ l3 fr30 (D4.clo eO) ⟨k04.mono fun x z => ?_, fun _ z => z.1, fun x z => ⟨.inl z, ?_⟩⟩
    · rcases z with z | z
      · exact .inl (.inl z)
      · exact .inl (.inr (.inl z))
    · obtain ⟨o, ho⟩ := hM.2 x z
      by_cases f : x = m ∨ x = b
      · rcases f with rfl | rfl
        · exact ⟨_, D4.o⟩
        · exact ⟨_, D4.hb⟩
      · exact ⟨o, k04.get ho f⟩
end
/-! ### a page tells its items -/
theorem tail_inj {D : Nat} {kd : Int} {x y : Itm} (hx : ItOk D kd x) (hy : ItOk D kd y) {Z W : List Int} (h : tailI x.x ++ Z = tailI y.x ++ W) : x.x = y.x ∧ Z = W := by
  rcases hx.k with ⟨e1, pt, pl, ex, l1, c1, b1, m1⟩ | ⟨e1, ex⟩
  · rcases hy.k with ⟨_, pt', pl', ey, l2, c2, b2, m2⟩ | ⟨e2, _⟩
    · rw [ex, ey] at h
      unfold tailI at h
      rw [List.append_assoc, List.append_assoc] at h
      obtain ⟨h1, h2⟩ := List.append_inj h (by rw [wp_len, wp_len, l1, l2])
      have ep : pt = pt' := by
        have a := rp_wp c1 [] []
        have b := rp_wp c2 [] []
        rw [List.nil_append, List.append_nil] at a b
        rw [← a, ← b, h1, l1, l2]
      rw [List.cons_append, List.cons_append] at h2
      obtain ⟨h3, h4⟩ := List.cons.inj h2
      obtain ⟨h5, h6⟩ := List.append_inj h4 (by omega)
      exact ⟨by rw [ex, ey, ep, h5], h6⟩
    · omega
  · rcases hy.k with ⟨e2, _⟩ | ⟨_, ey⟩
    · omega
    · rw [ex, ey] at h
      exact ⟨by rw [ex, ey], h⟩
theorem encI_inj {D : Nat} {kd : Int} {x y : Itm} (hx : ItOk D kd x) (hy : ItOk D kd y) {Z W : List Int} (h : encI x ++ Z = encI y ++ W) : x = y ∧ Z = W := by
  have inj : ∀ {u v : Int}, 0 ≤ u → u < 256 ^ 4 → 0 ≤ v → v < 256 ^ 4 → wn 4 u = wn 4 v → u = v := fun a b c d e => by
    rw [← rn_wn 4 _ a b, ← rn_wn 4 _ c d, e]
  unfold encI at h
  simp only [List.append_assoc] at h
  obtain ⟨h1, h⟩ := List.append_inj h (by rw [wn_len, wn_len])
  obtain ⟨h2, h⟩ := List.append_inj h (by rw [wn_len, wn_len])
  obtain ⟨h3, h⟩ := List.append_inj h (by rw [wn_len, wn_len])
  obtain ⟨h4, h5⟩ := tail_inj hx hy h
  refine ⟨?_, h5⟩
  have a := inj hx.a0 hx.a1 hy.a0 hy.a1 h1
  have b := inj hx.b0 hx.b1 hy.b0 hy.b1 h2
  have c := inj hx.c0 hx.c1 hy.c0 hy.c1 h3
  obtain ⟨_, _, _, _⟩ := x
  obtain ⟨_, _, _, _⟩ := y
  simp only at a b c h4
  rw [a, b, c, h4]
theorem enc_inj {D : Nat} {kd : Int} : ∀ {xs ys : List Itm} {Z W : List Int}, (∀ x ∈ xs, ItOk D kd x) → (∀ x ∈ ys, ItOk D kd x) → xs.length = ys.length → xs.flatMap encI ++ Z = ys.flatMap encI ++ W → xs = ys
  | [], [], _, _, _, _, _, _ => rfl
  | [], _ :: _, _, _, _, _, l, _ => by simp at l
  | _ :: _, [], _, _, _, _, l, _ => by simp at l
  | x :: xs, y :: ys, Z, W, hx, hy, l, h => by
    rw [List.flatMap_cons, List.flatMap_cons, List.append_assoc, List.append_assoc] at h
    obtain ⟨e, h⟩ := encI_inj (hx x (by simp)) (hy y (by simp)) h
    rw [e, enc_inj (fun z hz => hx z (by simp [hz])) (fun z hz => hy z (by simp [hz])) (by simpa using l) h]
theorem Dec.det {D : Nat} {v : List Int} {kd kd' : Int} {xs ys : List Itm} (h : Dec D v kd xs) (g : Dec D v kd' ys) : kd = kd' ∧ xs = ys := by
  have nz : ∀ {k : Int} {l : List Itm}, k = 1 ∨ k = 2 → pad (encB k l) ≠ zeros := fun hk => enc_nz (by rcases hk with e | e <;> rw [e] <;> decide)
  rcases h with ⟨h, h1, h2, _⟩ | ⟨h, rfl, rfl⟩
  · rcases g with ⟨g, g1, g2, _⟩ | ⟨g, rfl, rfl⟩
    · rw [h] at g
      unfold pad encB at g
      simp only [List.cons_append, List.cons.injEq] at g
      obtain ⟨e1, e2, e3⟩ := g
      subst e1
      exact ⟨rfl, enc_inj h2 g2 (by omega) e3⟩
    · exact absurd (h.symm.trans g) (nz h1)
  · rcases g with ⟨g, g1, g2, _⟩ | ⟨g, rfl, rfl⟩
    · exact absurd (g.symm.trans h) (nz g1)
    · exact ⟨rfl, rfl⟩
/-! ### the law's tree and the pages -/
structure R17 (D i : Nat) (s : PgS) (m : Int) (f t : List Int) (M : MT) : Prop where
  F : FR i s m f t
  many : M.many = m
  free : M.free = f
  pg : ∀ n kd its, M.pg n = some (kd, its) → n ∈ t ∧ Dec D (gpg s n) kd its
  tk : ∀ n ∈ t, ∃ q, M.pg n = some q
  sz : M.sz ≤ 4 * i
  fc : ∀ n ∈ f, ∃ x, gpg s n = wn 4 x ++ List.replicate 252 0 ∧ 0 ≤ x ∧ x < 256 ^ 4
theorem palloc_ne {s : PgS} {x : Int} (h0 : x ≠ 0) (h1 : x ≠ (palloc s).2) : gpg (palloc s).1 x = gpg s x := by
  unfold palloc at h1 ⊢
  split
  · rename_i h
    rw [if_pos h] at h1
    show gpg (pwr (fld s 6) zeros (setf 6 (fld s 6 + 1) s)) x = _
    rw [gpg_ne _ _ h1]
    exact gpg_ne _ _ h0
  · rename_i h
    rw [if_neg h] at h1
    show gpg (pwr (fld s 7) zeros (setf 7 _ s)) x = _
    rw [gpg_ne _ _ h1]
    exact gpg_ne _ _ h0
theorem prel_ne {s : PgS} {n x : Int} (h0 : x ≠ 0) (h1 : x ≠ n) : gpg (prel n s) x = gpg s x := by
  unfold prel setf
  rw [gpg_ne _ _ h0, gpg_ne _ _ h1]
theorem prel_at {s : PgS} {n : Int} (h0 : n ≠ 0) : gpg (prel n s) n = wn 4 (fld s 7) ++ List.replicate 252 0 := by
  unfold prel setf
  rw [gpg_ne _ _ h0, gpg_eq]
theorem R17.le {D i j : Nat} {s : PgS} {m : Int} {f t : List Int} {M : MT} (h : R17 D i s m f t M) (l : i ≤ j) : R17 D j s m f t M := ⟨h.F.le l, h.many, h.free, h.pg, h.tk, by have := h.sz; omega, h.fc⟩
theorem R17.perm {D i : Nat} {s : PgS} {m : Int} {f t t' : List Int} {M : MT} (h : R17 D i s m f t M) (p : t.Perm t') : R17 D i s m f t' M :=
  ⟨h.F.perm p, h.many, h.free, fun n kd its e => ⟨p.mem_iff.mp (h.pg n kd its e).1, (h.pg n kd its e).2⟩, fun n hn => h.tk n (p.mem_iff.mpr hn), h.sz, h.fc⟩
theorem R17.at {D i : Nat} {s : PgS} {m : Int} {f t : List Int} {M : MT} (h : R17 D i s m f t M) {n kd : Int} {its : List Itm} (hn : n ∈ t) (d : Dec D (gpg s n) kd its) : M.pg n = some (kd, its) := by
  obtain ⟨⟨kd', its'⟩, e⟩ := h.tk n hn
  obtain ⟨e1, e2⟩ := d.det (h.pg n kd' its' e).2
  rw [e, e1, e2]
theorem R17.put {D i : Nat} {s : PgS} {m n kd : Int} {f t : List Int} {its : List Itm} {M : MT} (h : R17 D i s m f t M) (hn : n ∈ t) (kk : kd = 1 ∨ kd = 2) (ok : ∀ it ∈ its, ItOk D kd it) (ft : (encB kd its).length ≤ 256) : R17 D (i + 1) (pwr n (pad (encB kd its)) s) m f t (mput M n (kd, its)) := by
  refine ⟨h.F.write hn (pad_len ft), h.many, h.free, fun x kd' its' e => ?_, fun x hx => ?_, by have := h.sz; show M.sz + 1 ≤ _; omega, fun x hx => by rw [gpg_ne s _ (h.F.nf hn hx)]; exact h.fc x hx⟩
  · have e : (if x = n then some (kd, its) else M.pg x) = some (kd', its') := e
    by_cases q : x = n
    · subst q
      rw [if_pos rfl] at e
      cases e
      rw [gpg_eq]
      exact ⟨hn, .inl ⟨rfl, kk, ok, ft⟩⟩
    · rw [if_neg q] at e
      rw [gpg_ne s _ q]
      exact h.pg x kd' its' e
  · show ∃ q, (if x = n then some (kd, its) else M.pg x) = some q
    split
    · exact ⟨_, rfl⟩
    · exact h.tk x hx
theorem mtake_of {M : MT} {f : List Int} {m : Int} (hf : M.free = f) (hm : M.many = m) : (mtake M).2 = alN m f ∧ (mtake M).1.many = alM m f ∧ (mtake M).1.free = f.tail ∧ (mtake M).1.pg = M.pg ∧ (mtake M).1.sz = M.sz := by
  subst hf; subst hm
  unfold alN alM
  cases e : M.free with
  | nil =>
    have z : mtake M = ({ M with many := M.many + 1 }, M.many) := by
      unfold mtake
      split
      · rfl
      · rename_i h; rw [e] at h; cases h
    rw [z]
    exact ⟨rfl, rfl, e, rfl, rfl⟩
  | cons n r =>
    have z : mtake M = ({ M with free := r }, n) := by
      unfold mtake
      split
      · rename_i h; rw [e] at h; cases h
      · rename_i h; rw [e] at h; cases h; rfl
    rw [z]
    exact ⟨rfl, rfl, rfl, rfl, rfl⟩
theorem R17.aput {D i : Nat} {s : PgS} {m kd : Int} {f t : List Int} {its : List Itm} {M : MT} (h : R17 D i s m f t M) (hi : i ≤ 399000) (kk : kd = 1 ∨ kd = 2) (ok : ∀ it ∈ its, ItOk D kd it) (ft : (encB kd its).length ≤ 256) :
    (mtake M).2 = (palloc s).2 ∧ (palloc s).2 ∉ t ∧ R17 D (i + 2) (pwr (palloc s).2 (pad (encB kd its)) (palloc s).1) (alM m f) f.tail ((palloc s).2 :: t) (mput (mtake M).1 (mtake M).2 (kd, its)) := by
  obtain ⟨ea, A, sm⟩ := h.F.alloc (by omega)
  obtain ⟨m1, m2, m3, m4, m5⟩ := mtake_of h.free h.many
  have e2 : (mtake M).2 = (palloc s).2 := by rw [m1, ea]
  rw [← ea] at A
  have ni := (List.nodup_cons.mp A.ndt).1
  refine ⟨e2, ni, A.write (by simp) (pad_len ft), m2, m3, fun x kd' its' e => ?_, fun x hx => ?_, by have := h.sz; show (mtake M).1.sz + 1 ≤ _; rw [m5]; omega, fun x hx => by
    have hx' := List.mem_of_mem_tail hx
    have x0 := (h.F.rg x (List.mem_append.mpr (.inl hx'))).1
    have xa : x ≠ (palloc s).2 := by
      rw [ea]
      intro z
      have nd := (List.nodup_append.mp h.F.nd).1
      cases f with
      | nil => simp at hx
      | cons y r => exact (List.nodup_cons.mp nd).1 (by rw [← show x = y from z]; exact hx)
    rw [gpg_ne _ _ xa, palloc_ne (by omega) xa]
    exact h.fc x hx'⟩
  · rw [e2] at e
    have e : (if x = (palloc s).2 then some (kd, its) else (mtake M).1.pg x) = some (kd', its') := e
    rw [m4] at e
    by_cases q : x = (palloc s).2
    · subst q
      rw [if_pos rfl] at e
      cases e
      rw [gpg_eq]
      exact ⟨by simp, .inl ⟨rfl, kk, ok, ft⟩⟩
    · rw [if_neg q] at e
      obtain ⟨z1, z2⟩ := h.pg x kd' its' e
      rw [gpg_ne _ _ q, sm x z1]
      exact ⟨by simp [z1], z2⟩
  · rw [e2]
    show ∃ q, (if x = (palloc s).2 then some (kd, its) else (mtake M).1.pg x) = some q
    rw [m4]
    split
    · exact ⟨_, rfl⟩
    · rename_i q
      rcases List.mem_cons.mp hx with e | hx
      · exact absurd e q
      · exact h.tk x hx
theorem R17.rel {D i : Nat} {s : PgS} {m n : Int} {f t : List Int} {M : MT} (h : R17 D i s m f (n :: t) M) (hi : i ≤ 400000) : R17 D (i + 1) (prel n s) m (n :: f) t (mrel M n) := by
  obtain ⟨A, sm⟩ := h.F.rel hi
  have ni := (List.nodup_cons.mp h.F.ndt).1
  refine ⟨A, h.many, by show n :: M.free = _; rw [h.free], fun x kd its e => ?_, fun x hx => ?_, by have := h.sz; show M.sz ≤ _; omega, fun x hx => ?_⟩
  · have e : (if x = n then none else M.pg x) = some (kd, its) := e
    by_cases q : x = n
    · rw [if_pos q] at e; cases e
    · rw [if_neg q] at e
      obtain ⟨z1, z2⟩ := h.pg x kd its e
      rcases List.mem_cons.mp z1 with z | z
      · exact absurd z q
      · rw [sm x z]
        exact ⟨z, z2⟩
  · show ∃ q, (if x = n then none else M.pg x) = some q
    rw [if_neg fun z => ni (by rw [← z]; exact hx)]
    exact h.tk x (by simp [hx])
  · have hn := h.F.pos (n := n) (by simp)
    rcases List.mem_cons.mp hx with rfl | hx
    · rw [prel_at (by omega)]
      refine ⟨_, rfl, ?_⟩
      rw [fld_vf, h.F.chain.head]
      have mb := h.F.mb
      cases f with
      | nil => exact ⟨by decide, by decide⟩
      | cons y r =>
        have := h.F.rg y (by simp)
        show 0 ≤ y ∧ y < 256 ^ 4
        omega
    · have x0 := (h.F.rg x (List.mem_append.mpr (.inl hx))).1
      have xn : x ≠ n := h.F.nf (by simp) hx
      rw [prel_ne (by omega) xn]
      exact h.fc x hx
/-! ### the way, by the law's count -/
def cnt17 (k b : Int) (its : List Itm) : Nat := (its.tail.filter fun c => pLe c.a c.b k b).length
inductive WayM (M : MT) (k b : Int) : Int → List (Int × Nat) → Int → List Itm → Prop
  | leaf {n : Int} {its : List Itm} : M.pg n = some (1, its) → its.length ≤ 21 → WayM M k b n [] n its
  | node {n m : Int} {its es : List Itm} {ch : Itm} {path : List (Int × Nat)} : M.pg n = some (2, its) → its.length ≤ 21 → its[cnt17 k b its]? = some ch → WayM M k b ch.c path m es → WayM M k b n ((n, cnt17 k b its) :: path) m es
theorem KT.wayM {D i : Nat} {s : PgS} {m : Int} {f t : List Int} {M : MT} (R : R17 D i s m f t M) {k b : Int} (hb : Rb b) : ∀ (h : Nat) {n lo hi : Int} {ps : List Int} {es : List Itm} {path : List (Int × Nat)} {m0 : Int} {e0 : List Itm},
    KT D (gpg s) h n lo hi ps es → (∀ x ∈ ps, x ∈ t) → ps.Nodup → lo ≤ kp k b → kp k b < hi → Way D (gpg s) k b n path m0 e0 → WayM M k b n path m0 e0 ∧ (path.map (·.1) ++ [m0]).Nodup ∧ (∀ x ∈ path.map (·.1) ++ [m0], x ∈ ps) ∧ (path.map (·.1) ++ [m0]).head? = some n ∧ (∀ x ∈ e0, x ∈ es) ∧ e0.Pairwise fun x y => ky x < ky y
  | 0, n, lo, hi, ps, es, path, m0, e0, K, hp, nd, h1, h2, w => by
    obtain ⟨kd, its, ps', rfl, d, _, rfl, rfl, rfl, pw, _⟩ := K
    have hn := hp n (by simp)
    cases w with
    | leaf d' =>
      obtain ⟨_, e⟩ := d.det d'
      subst e
      exact ⟨.leaf (R.at hn d') d'.lz, by simp, fun x hx => by simpa using hx, rfl, fun _ z => z, pw⟩
    | node d' _ _ => exact absurd (d.det d').1 (by decide)
  | h + 1, n, lo, hi, ps, es, path, m0, e0, K, hp, nd, h1, h2, w => by
    obtain ⟨N, P⟩ := K.mid hb h1 h2
    have hn := hp n (by rw [P.ep]; simp)
    rw [P.ep, List.nodup_cons] at nd
    have nd2 := (List.nodup_append.mp (List.nodup_append.mp nd.2).2.1).1
    cases w with
    | leaf d' => exact absurd (P.d.det d').1 (by decide)
    | node d' e w' =>
      obtain ⟨_, e2⟩ := P.d.det d'
      subst e2
      rw [P.j] at e ⊢
      have ec : (N.l ++ N.c :: N.r)[N.l.length]? = some N.c := by simp
      rw [ec] at e
      cases e
      obtain ⟨W, ndp, hq, _, sub, pw⟩ := KT.wayM R hb h P.kc (fun x hx => hp x (by rw [P.ep]; simp [hx])) nd2 P.k1 P.k2 w'
      have jt : cnt17 k b (N.l ++ N.c :: N.r) = N.l.length := P.jt
      refine ⟨?_, ?_, fun x hx => ?_, rfl, fun x hx => by rw [P.ee]; have := sub x hx; simp [this], pw⟩
      · have := WayM.node (R.at hn d') d'.lz (by rw [jt]; exact ec) W
        rw [jt] at this
        exact this
      · rw [List.map_cons, List.cons_append, List.nodup_cons]
        exact ⟨fun z => nd.1 (by have := hq _ z; simp [this]), ndp⟩
      · rw [List.map_cons, List.cons_append] at hx
        rcases List.mem_cons.mp hx with rfl | z
        · rw [P.ep]; simp
        · have := hq x z
          rw [P.ep]; simp [this]
def CurM (M : MT) (k b n : Int) (path : List (Int × Nat)) (m : Int) (es : List Itm) (kd : Int) (its : List Itm) : Prop :=
  M.pg n = some (kd, its) ∧ its.length ≤ 21 ∧ ((path = [] ∧ kd = 1 ∧ n = m ∧ its = es) ∨ ∃ ch rest, path = (n, cnt17 k b its) :: rest ∧ kd = 2 ∧ its[cnt17 k b its]? = some ch ∧ WayM M k b ch.c rest m es)
theorem WayM.cur {M : MT} {k b n m : Int} {path : List (Int × Nat)} {es : List Itm} (h : WayM M k b n path m es) : ∃ kd its, CurM M k b n path m es kd its := by
  cases h with
  | leaf e l => exact ⟨1, _, e, l, .inl ⟨rfl, rfl, rfl, rfl⟩⟩
  | node e l c w => exact ⟨2, _, e, l, .inr ⟨_, _, rfl, rfl, c, w⟩⟩
section
variable {P : Program} {w : World} {K : PySem.W.Frag} {mg : Str → Option Value} {base : Heap} {c : Cl}
def sp_way17 (K : PySem.W.Frag) : Sp := fun vs H Q _ => ∃ (m b fl t : Addr) (O : Addr → Prop) (M : MT) (kk bb m0 : Int) (path : List (Int × Nat)) (es : List Itm), vs = [.ref m, .ref t] ∧ MtAt K H m b fl O M ∧ SqT K H t [.int kk, .int bb] ∧ WayM M kk bb 1 path m0 es ∧ path.length ≤ 1000 ∧
  ∀ H' t pl pvs, Kp F0 H H' → H' t = some (.tup [.ref pl, .int m0]) → H pl = none → H' pl = some (.lst pvs) → Paired (PthV K H') pvs path → Q (.ref t) H'
theorem ok__law_way (T : Txt K mg c) : GF P w K mg base CX0 1 "_law_way" (sp_way17 K) := by
  obtain ⟨f, fd, F, gm⟩ := T.f__law_way
  refine ⟨f, fd, ["_law_model", "_law_pair"], F.ok sc__law_way ?_ (fun cdv A outer s H vs Q E hr h => ?_), gm, F.kp, (F.binds (ps := ["_law_model", "_law_pair"]) fun _ _ _ _ _ _ us hl => match us, hl with | [_, _], _ => rfl)⟩
  · rintro vs H Q E ⟨_, _, _, _, _, _, _, _, _, _, _, rfl, _⟩
    rfl
  · obtain ⟨m, b, fl, t, O0, M, kk, bb, m0, path, es, rfl, hM, ht, way, lp, k⟩ := h
    obtain ⟨⟨kvs, D⟩, _⟩ := hM
    have hm := D.o
    have hb := D.hb
    refine ⟨_, (pss_cons (ps_set (i := 2) sc__law_way.nd rfl (Or.inl rfl) (pe_dget (hu_of hr) (pv 0) pe_str (fun _ _ => rfl)))
      (pss_cons (ps_set (i := 3) sc__law_way.nd rfl (Or.inl rfl) (pe_lst pa_nil))
      (pss_cons (ps_set (i := 4) sc__law_way.nd rfl (Or.inl rfl) pe_int)
      (pss_cons (ps_while PassesOwn.never (pt_cmpR op_eq (pe_ix (r := rIxT K) ix_tup (pe_dget (hu_of hr) (pv 2) (pv 4) (fun _ _ => rfl)) pe_int (fun _ _ => rfl)) pe_int (nomark _)) (pss_cons (ps_set (i := 5) sc__law_way.nd rfl (Or.inl rfl) (pe_ix (r := rIxT K) ix_tup (pe_dget (hu_of hr) (pv 2) (pv 4) (fun _ _ => rfl)) pe_int (fun _ _ => rfl)))
      (pss_cons (ps_set (i := 6) sc__law_way.nd rfl (Or.inl rfl) (pe_callB (r := rLenQ K) c_len (by rfl) T.z_len PySem.boot_len (pa_cons (pe_lc (own := [("_law_child_here", 7)]) (g := (gName 7)) rfl sc__law_way.nd (pi_listK rfl (pe_slice (r := rSlL K) sl_list (pv 5) (po_some pe_int) po_none)) (blkOk_by (N := ["_law_model", "_law_pair", "_law_pages", "_law_path", "_law_number", "_law_children", "_law_place", "_law_child_here"]) (sc := defScope s__law_way) (by decide +kernel)) (fun _ _ _ _ _ => (pg_name (i := 7) sc__law_way.nd rfl (Or.inl rfl))) (fun _ _ _ _ _ => (pts_one (pt_cmpR (r := rLeT K) (op_leT hr.units0) (pe_slice (r := rSlA K) sl_tupA (pv 7) po_none (po_some pe_int)) (pv 1) (nomark _)))) (fun _ _ _ _ _ => (pv 7))) pa_nil)))
      (pss_cons (ps_expr (pe_kBM rfl (pe_bm PySem.F.plainAttrs_list PySem.F.slot_list_append PySem.F.type_list_append mt_append (pv 3) (pa_cons (pe_tup (pa_cons (pv 4) (pa_cons (pv 6) pa_nil))) pa_nil))))
      (pss_one (ps_set (i := 4) sc__law_way.nd rfl (Or.inl rfl) (pe_ix (r := rIxT K) ix_tup (pe_ix (r := rIxL K) ix_list (pv 5) (pv 6) (fun _ _ => rfl)) pe_int (fun _ _ => rfl))))))))
      (pss_one (ps_ret (pe_tup (pa_cons (pv 3) (pa_cons (pv 4) pa_nil))))))))), ?_⟩
    walk_at "cx"
    walk_at "rd"
    refine x_newL fun pl H1 hpl k1 e1 => ?_
    walk_at "rd"
    refine x_wh (fun mm σ H' => ∃ dn rest n pvs u5 u6, mm = rest.length ∧ path = dn ++ rest ∧ σ = [some (.ref m), some (.ref t), some (.ref b), some (.ref pl), some (.int n), u5, u6, none] ∧ H' pl = some (.lst pvs) ∧ Paired (PthV K H') pvs dn ∧ WayM M kk bb n rest m0 es ∧ Kp F0 H H') ?_ ?_
    · exact ⟨_, [], path, 1, [], none, none, rfl, rfl, rfl, e1, .nil, way, k1⟩
    · rintro mm σ H3 ⟨dn, rest, n, pvs, u5, u6, rfl, ep, rfl, epl, hpv, wy, k3⟩
      have D3 := D.same k3
      have hb3 := D3.hb
      obtain ⟨kd, its, eM, lz, cur⟩ := wy.cur
      obtain ⟨v, ev, tt, l, ws, rfl, htt0, hl0, hv0, ol, nlf⟩ := D.at eM
      have htt := k3.tup htt0
      have hl := k3.get hl0 id
      have hv : ItWs K H3 ws its := hv0.mono fun _ _ z => z.kp k3
      have lw := hv.length
      walk_at "rd"
      refine x_dgI (.inl hb3) ev ?_
      walk_at "rd"
      rcases cur with ⟨rfl, rfl, rfl, rfl⟩ | ⟨ch, rest', rfl, rfl, ech, wy'⟩
      · rw [decide_eq_false (by show ¬ (1 : Int) = 2; decide)]
        walk_at "rd"
        refine x_newT fun t4 H4 ht4 k4 e4 => ?_
        rw [List.append_nil] at ep
        subst ep
        exact k H4 t4 pl pvs (k3.trans k4 fun _ z => z.elim) e4 hpl (k4.get epl id) (hpv.mono fun _ _ z => z.kp k4)
      · rw [decide_eq_true rfl]
        walk_at "rd"
        refine ⟨_, fun σ' H' z => ⟨rest'.length, Nat.lt_succ_self _, z⟩, ?_⟩
        walk_at "rd"
        refine x_dgI (.inl hb3) ev ?_
        walk_at "rd"
        refine x_slL (SqL.of hl) fun l5 H5 hl5 k5 e5 => ?_
        rw [show cutV ws (some 1) none = ws.drop 1 by
          have h1 : 0 < ws.length := by have := (List.getElem?_eq_some_iff.mp ech).1; omega
          exact cutW_from (j := 1) (by omega)] at e5
        have hv5 : ItWs K H5 (ws.drop 1) (its.drop 1) := pr_drop 1 (hv.mono fun _ _ z => z.kp k5)
        have lw5 := hv5.length
        walk_at "rd"
        refine wlcH (Wk.list (xs := ws.drop 1)) F0 (fun D' i acc H' => acc.length = (((its.drop 1).take i).filter fun x => pLe x.a x.b kk bb).length) (fun b z => z.elim) (by rw [List.length_drop]; omega) (fun D' i acc H' _ s => SqL.of (s.get e5 id)) (fun _ _ => rfl) (fun D' i acc H' H4 k h => h) (fun D' i x acc H' R R0 ex hD' hacc pv kp hR hR0 => ?_) (fun z H6 acc hz hz6 pv k6 => ?_)
        · obtain ⟨y, ey, hy⟩ := pgt hv5 ex
          have tk : (its.drop 1).take (i + 1) = (its.drop 1).take i ++ [y] := by rw [List.take_succ, ey]; rfl
          obtain ⟨ty, rr, rfl, hty, lrr⟩ := (hy.kp kp).three
          walk_at "rd"
          refine ⟨rfl, ?_⟩
          walk_at "rd"
          refine x_slT hty fun t7 H7 k7 e7 => ?_
          have cutE : cutV (V.int y.a :: .int y.b :: .int y.c :: rr) none (some 2) = [.int y.a, .int y.b] := rfl
          rw [cutE] at e7
          walk_at "rd"
          refine ⟨t7, t, [y.a, y.b], [kk, bb], rfl, rfl, e7, k7.sqT (kp.sqT (k5.sqT (k3.sqT ht))), ?_⟩
          rw [lex_pLe]
          cases hp : pLe y.a y.b kk bb with
          | true =>
            walk_at "rd"
            exact hR _ H7 k7 (by rw [tk, List.filter_append, List.length_append, List.length_append, pv, List.filter_cons, if_pos hp]; rfl)
          | false =>
            walk_at "rd"
            exact hR0 H7 k7 (by rw [tk, List.filter_append, List.length_append, pv, List.filter_cons, if_neg (by rw [hp]; exact Bool.false_ne_true)]; rfl)
        · rw [lw5, List.take_length] at pv
          have ec : acc.length = cnt17 kk bb its := by rw [pv]; unfold cnt17; rw [List.drop_one]
          have k36 : Kp F0 H3 H6 := k5.trans k6 fun _ z => z.elim
          walk_at "rd"
          rw [ec]
          have epl6 := k36.get epl id
          walk_at "rd"
          refine x_newT fun t7 H7 ht7 k7 e7 => ?_
          walk_at "rd"
          have lpv := hpv.length
          have lpath : path.length = dn.length + (rest'.length + 1) := by rw [ep, List.length_append, List.length_cons]
          refine x_app (k7.get epl6 id) (by omega) fun H8 e8 k8 => ?_
          have npl : l ≠ pl := ne_of_none hl0 hpl
          have k68 : Kp (F1 pl) H3 H8 := ((k36.trans k7 fun _ z => z.elim).mono fun _ z => z.elim).trans k8 fun _ z => .inl z
          have k08 : Kp F0 H H8 := fun x o hx _ => k68.get (k3.get hx id) (ne_of_none hx hpl)
          have el8 := k68.get hl npl
          obtain ⟨v, evc, hch⟩ := pgetr hv ech
          obtain ⟨tc, rr, rfl, htc, _⟩ := (hch.kp k68).three
          walk_at "rd"
          refine x_ixL (v := .ref tc) (SqL.of el8) (atI_at _ rfl evc) ?_
          walk_at "rd"
          refine x_ixT (v := .int ch.c) htc (atI_at 2 rfl rfl) ?_
          exact ⟨dn ++ [(n, cnt17 kk bb its)], rest', ch.c, _, _, _, rfl, by rw [ep, List.append_assoc]; rfl, rfl, e8, pr_app (hpv.mono fun _ _ z => z.kp k68) (.cons ⟨t7, rfl, k8.sqT (SqT.of e7)⟩ .nil), wy', k08⟩
/-! ### where a page is split -/
def sp_split17 (K : PySem.W.Frag) : Sp := fun vs H Q _ => ∃ (l D' : Addr) (us : List V) (its : List Itm), vs = [.ref l] ∧ H l = some (.lst us) ∧ Paired (PartV D' H) us its ∧ 0 < its.length ∧ its.length ≤ 1000 ∧ ∀ H', Kp F0 H H' → Q (.int (hk its : Nat)) H'
theorem ok__law_split_place (T : Txt K mg c) : GF P w K mg base CX0 1 "_law_split_place" (sp_split17 K) := by
  obtain ⟨f, fd, F, gm⟩ := T.f__law_split_place
  refine ⟨f, fd, ["_law_parts_here"], F.ok sc__law_split_place ?_ (fun cdv A outer s H vs Q E hr h => ?_), gm, F.kp, (F.binds (ps := ["_law_parts_here"]) fun _ _ _ _ _ _ us hl => match us, hl with | [_], _ => rfl)⟩
  · rintro vs H Q E ⟨_, _, _, _, rfl, _⟩
    rfl
  · obtain ⟨l, D', us, its, rfl, hl, hv, l0, lz, k⟩ := h
    have lv := hv.length
    have ls : (isz its).length = its.length := by unfold isz; rw [List.length_map]
    have esum : ∀ xs : List Nat, (xs.map fun n : Nat => (n : Int)).sum = (xs.sum : Nat) := fun xs => by
      induction xs with
      | nil => rfl
      | cons a t ih => rw [List.map_cons, List.sum_cons, List.sum_cons, ih]; push_cast; rfl
    have pos : 0 < (isz its).sum := by
      unfold isz
      cases its with
      | nil => exact absurd l0 (by decide)
      | cons it r =>
        have := encI_len it
        rw [List.map_cons, List.sum_cons]; omega
    refine ⟨_, (pss_cons (ps_set (i := 1) sc__law_split_place.nd rfl (Or.inl rfl) (pe_callB (r := rSum K) (cr_sum rfl) (by rfl) T.z_sum (by decide +kernel) (pa_cons (pe_lc (own := [("_law_part", 3)]) (g := (gName 3)) (tt := tYes) rfl sc__law_split_place.nd (pi_listK rfl (pv 0)) (blkOk_by (N := ["_law_parts_here", "_law_whole", "_law_count", "_law_part"]) (sc := defScope s__law_split_place) (by decide +kernel)) (fun _ _ _ _ _ => (pg_name (i := 3) sc__law_split_place.nd rfl (Or.inl rfl))) (fun _ _ _ _ _ => pts_nil) (fun _ _ _ _ _ => (pe_callB (r := rLenQ K) c_len (by rfl) T.z_len PySem.boot_len (pa_cons (pv 3) pa_nil)))) pa_nil)))
      (pss_cons (ps_set (i := 2) sc__law_split_place.nd rfl (Or.inl rfl) pe_int)
      (pss_cons (ps_while PassesOwn.never (pt_cmpR op_le (pe_op op_mul pe_int (pe_callB (r := rSum K) (cr_sum rfl) (by rfl) T.z_sum (by decide +kernel) (pa_cons (pe_lc (own := [("_law_part", 3)]) (g := (gName 3)) (tt := tYes) rfl sc__law_split_place.nd (pi_listK rfl (pe_slice (r := rSlL K) sl_list (pv 0) po_none (po_some (pe_op op_add (pv 2) pe_int)))) (blkOk_by (N := ["_law_parts_here", "_law_whole", "_law_count", "_law_part"]) (sc := defScope s__law_split_place) (by decide +kernel)) (fun _ _ _ _ _ => (pg_name (i := 3) sc__law_split_place.nd rfl (Or.inl rfl))) (fun _ _ _ _ _ => pts_nil) (fun _ _ _ _ _ => (pe_callB (r := rLenQ K) c_len (by rfl) T.z_len PySem.boot_len (pa_cons (pv 3) pa_nil)))) pa_nil))) (pv 1) (nomark _)) (pss_one (ps_set (i := 2) sc__law_split_place.nd rfl (Or.inl rfl) (pe_op op_add (pv 2) pe_int))))
      (pss_one (ps_ret (pv 2)))))), ?_⟩
    walk_at "cx"
    walk_at "rd"
    refine wlcP (ys := (isz its).map fun n : Nat => V.int (n : Int)) (Wk.list (xs := us)) (by rw [List.length_map, ls, lv]) (by omega) (fun H' s => SqL.of (s.get hl id)) (fun i x y H' R ex ey kp hR => ?_) (fun z H1 hz k1 e1 => ?_)
    · obtain ⟨it, ei, li, rfl, hli, _⟩ := pgt hv ex
      unfold isz at ey
      rw [List.getElem?_map, List.getElem?_map, ei] at ey
      cases ey
      have hli' := kp.get hli id
      walk_at "rd"
      refine ⟨rfl, ?_⟩
      walk_at "rd"
      rw [List.length_map]
      exact hR H' (Kp.refl _)
    · have e1' : H1 z = some (.lst (((isz its).map fun n : Nat => (n : Int)).map V.int)) := by rw [e1, List.map_map]; rfl
      walk_at "rd"
      refine x_sum (SqL.of e1') ?_
      rw [esum]
      walk_at "rd"
      refine x_wh (fun m σ H' => ∃ i : Nat, m = its.length - i ∧ σ = [some (.ref l), some (.int ((isz its).sum : Nat)), some (.int i), none] ∧ Kp F0 H H' ∧ i ≤ its.length ∧ hk its = i + hcnt (isz its).sum ((isz its).drop i) ((isz its).take i).sum ∧ 2 * ((isz its).take i).sum ≤ (isz its).sum) ?_ ?_
      · exact ⟨_, 0, rfl, rfl, k1, Nat.zero_le _, by unfold hk; simp, by simp⟩
      · rintro m σ H2 ⟨i, rfl, rfl, k2, hi, hh, hs⟩
        have hi' : i < its.length := by
          by_cases q : i < its.length
          · exact q
          · obtain rfl : i = its.length := by omega
            rw [List.take_of_length_le (by omega)] at hs
            omega
        have hi2 : i < (isz its).length := by omega
        obtain ⟨g1, g2⟩ := hcnt_go hh hi2
        have tk : ((isz its).take (i + 1)).sum = ((isz its).take i).sum + (isz its)[i] := by rw [List.take_succ, List.getElem?_eq_getElem hi2, List.sum_append]; show _ + ((isz its)[i] + 0) = _; omega
        have hl2 := k2.get hl id
        walk_at "rd"
        refine x_slL (SqL.of hl2) fun l3 H3 hl3 k3 e3 => ?_
        rw [show ((i : Int) + 1) = ((i + 1 : Nat) : Int) by omega, cutW_to (by omega)] at e3
        have hv3 : Paired (PartV D' H3) (us.take (i + 1)) (its.take (i + 1)) := pr_take _ (hv.mono fun _ _ z => z.kp (k2.trans k3 fun _ z => z.elim) fun _ z => z.elim)
        have lv3 := hv3.length
        have lt3 : (its.take (i + 1)).length = i + 1 := by rw [List.length_take]; omega
        walk_at "rd"
        refine wlcP (ys := ((isz its).take (i + 1)).map fun n : Nat => V.int (n : Int)) (Wk.list (xs := us.take (i + 1))) (by rw [List.length_map, List.length_take, ls, lv3, lt3]; omega) (by rw [lv3, lt3]; omega) (fun H' s => SqL.of (s.get e3 id)) (fun j x y H' R ex ey kp hR => ?_) (fun z4 H4 hz4 k4 e4 => ?_)
        · obtain ⟨it, ei, li, rfl, hli, _⟩ := pgt hv3 ex
          rw [← isz_take] at ey
          unfold isz at ey
          rw [List.getElem?_map, List.getElem?_map, ei] at ey
          cases ey
          have hli' := kp.get hli id
          walk_at "rd"
          refine ⟨rfl, ?_⟩
          walk_at "rd"
          rw [List.length_map]
          exact hR H' (Kp.refl _)
        · have e4' : H4 z4 = some (.lst ((((isz its).take (i + 1)).map fun n : Nat => (n : Int)).map V.int)) := by rw [e4, List.map_map]; rfl
          have k04 : Kp F0 H H4 := (k2.trans k3 fun _ z => z.elim).trans k4 fun _ z => z.elim
          walk_at "rd"
          refine x_sum (SqL.of e4') ?_
          rw [esum]
          walk_at "rd"
          refine ite_dec (fun e => ?_) fun e => ?_
          · have e' : 2 * (((isz its).take i).sum + (isz its)[i]) ≤ (isz its).sum := by rw [← tk]; omega
            refine ⟨_, fun σ' H' z => ⟨its.length - (i + 1), by omega, z⟩, ?_⟩
            walk_at "rd"
            refine ⟨i + 1, rfl, ?_, k04, hi', g1 e', by rw [tk]; exact e'⟩
            rfl
          · have e' : ¬ 2 * (((isz its).take i).sum + (isz its)[i]) ≤ (isz its).sum := by rw [← tk]; omega
            have hki : hk its = i := g2 e'
            walk_at "rd"
            rw [← hki]
            exact k H4 k04
end
/-! ### items put into the law's tree -/
theorem if_nest {b : Bool} {R F E : Prop} (r : R) (e : b = false → R → E) : if b = true then (if true = true then R else F) else E := by
  cases b
  · exact e rfl r
  · exact r
theorem PgV.sm {K : PySem.W.Frag} {O O' : Addr → Prop} {H H' : Hp} {m b fl : Addr} {M : MT} {v : V} {q : Int × List Itm} (h : PgV K H O fl v q) (s : St3 m b fl O O' H H') (hM : MtAt K H m b fl O M) : PgV K H' O' fl v q := by
  obtain ⟨⟨kvs, D⟩, _⟩ := hM
  exact h.st s D
theorem PgV.same {K : PySem.W.Frag} {O : Addr → Prop} {H : Hp} {fl t l : Addr} {kd : Int} {its : List Itm} (h : PgV K H O fl (.ref t) (kd, its)) (ht : H t = some (.tup [.int kd, .ref l])) : ∃ ws, H l = some (.lst ws) ∧ ItWs K H ws its ∧ O l ∧ l ≠ fl ∧ ws.length = its.length := by
  obtain ⟨t', l', ws, e, h1, h2, h3, h4, h5⟩ := h
  cases e
  rw [ht] at h1
  simp only [Option.some.injEq, HO.tup.injEq, List.cons.injEq, V.ref.injEq, and_true, true_and] at h1
  subst h1
  exact ⟨ws, h2, h3, h4, h5, h3.length⟩
theorem St3.kpn {m b fl x : Addr} {O O' : Addr → Prop} {H H' : Hp} {o : HO} (s : St3 m b fl O O' H H') (g : ∀ x, G3 m b fl x → O x) (h : H x = some o) (n : ¬ O x) : H' x = some o ∧ ¬ O' x := by
  refine ⟨s.kp.get h fun z => n (g x z), fun z => ?_⟩
  rcases s.gr x z with y | y
  · exact n y
  · rw [h] at y; cases y
/-- a new page is stored: its list and its tuple were just made -/
theorem MtAt.storeN {K : PySem.W.Frag} {O : Addr → Prop} {H H1 H2 : Hp} {m b fl l t : Addr} {M : MT} {n kd : Int} {its : List Itm} {ws : List V} {kvs : List (Key × V)} (hM : MtAt K H m b fl O M) (k : Kp F0 H H1) (hl : H l = none) (el : H1 l = some (.lst ws)) (et : H1 t = some (.tup [.int kd, .ref l])) (hv : ItWs K H1 ws its)
    (hk : H b = some (.dK kvs)) (k2 : Kp (F1 b) H1 H2) (h2 : H2 b = some (.dK (putK kvs (.inl n) (.ref t)))) :
    MtAt K H2 m b fl (fun x => O x ∨ x = l) (mput M n (kd, its)) ∧ St3 m b fl O (fun x => O x ∨ x = l) H H2 := by
  obtain ⟨J, s1, nf⟩ := hM.join k hl ⟨_, el⟩
  obtain ⟨⟨kv', D'⟩, tr⟩ := id J
  have e : kv' = kvs := by
    have := D'.hb
    rw [k.get hk id] at this
    cases this; rfl
  subst e
  obtain ⟨J2, s2⟩ := D'.store tr (q := (kd, its)) ⟨t, l, ws, rfl, et, el, hv, .inr rfl, nf⟩ k2 h2
  exact ⟨J2, s1.trans s2 hM.own3⟩
theorem MtAt.dict {K : PySem.W.Frag} {O : Addr → Prop} {H : Hp} {m b fl : Addr} {M : MT} (hM : MtAt K H m b fl O M) : ∃ kvs, H m = some (.dK (RD_model (.ref b) (.int M.many) (.ref fl))) ∧ H b = some (.dK kvs) ∧ kvs.length ≤ M.sz ∧ ∀ n q, M.pg n = some q → ∃ v, valV kvs (.inl n) = some v ∧ PgV K H O fl v q := by
  obtain ⟨⟨kvs, D⟩, _⟩ := hM
  exact ⟨kvs, D.o, D.hb, D.sz, fun n q e => D.at e⟩
theorem Sv.si {D : Nat} {path : List (Int × Nat)} {n kd : Int} {its : List Itm} {s s' : PgS} (h : Sv D path n kd its s s') : SvI kd its s := by cases h <;> assumption
theorem tooL_sum {D : Nat} {kd : Int} {its : List Itm} (kk : kd = 1 ∨ kd = 2) (ok : ∀ it ∈ its, ItOk D kd it) : (tooL kd its ↔ 256 < 2 + (isz its).sum ∨ kd = 2 ∧ 20 < its.length) := by
  unfold tooL
  rcases kk with rfl | rfl
  · rw [if_neg (by decide), encB_sz]
    constructor
    · exact .inl
    · rintro (h | ⟨h, _⟩)
      · exact h
      · exact absurd h (by decide)
  · rw [if_pos rfl, isz_in ok]
    constructor
    · exact fun h => .inr ⟨rfl, h⟩
    · rintro (h | ⟨_, h⟩)
      · omega
      · exact h
section
variable {P : Program} {w : World} {K : PySem.W.Frag} {mg : Str → Option Value} {base : Heap} {c : Cl}
/-- between two turns of the settling -/
structure SI (K : PySem.W.Frag) (H0 H : Hp) (m b fl pl : Addr) (O0 : Addr → Prop) (D i0 : Nat) (s' : PgS) (n : Int) (pv : V) (kd : Int) (its : List Itm) (path : List (Int × Nat)) (O : Addr → Prop) (M : MT) (i : Nat) : Prop where
  hM : MtAt K H m b fl O M
  pg : PgV K H O fl pv (kd, its)
  hp : ∃ pvs, H pl = some (.lst pvs) ∧ Paired (PthV K H) pvs path
  np : ¬ O pl
  r : ∃ s mm f tk, R17 D i s mm f tk M ∧ Sv D path n kd its s s' ∧ n ∈ tk ∧ ∀ q ∈ path, q.1 ∈ tk
  ok : ∀ it ∈ its, ItOk D kd it
  hi : i + 4 * path.length + (if tooL kd its then 4 else 0) ≤ i0
  kp : Kp (fun x => G3 m b fl x ∨ x = pl) H0 H
  gr : ∀ x, O x → O0 x ∨ H0 x = none
theorem SI.pure {H0 H H' : Hp} {m b fl pl : Addr} {O0 O : Addr → Prop} {D i0 i : Nat} {s' : PgS} {n kd : Int} {pv : V} {its : List Itm} {path : List (Int × Nat)} {M : MT} (h : SI K H0 H m b fl pl O0 D i0 s' n pv kd its path O M i) (k : Kp F0 H H') : SI K H0 H' m b fl pl O0 D i0 s' n pv kd its path O M i := by
  obtain ⟨pvs, h1, h2⟩ := h.hp
  exact ⟨h.hM.same k, h.pg.pure k, ⟨pvs, k.get h1 id, h2.mono fun _ _ z => z.kp k⟩, h.np, h.r, h.ok, h.hi, h.kp.trans k fun _ z => z.elim, h.gr⟩
def sp_settled17 (K : PySem.W.Frag) : Sp := fun vs H Q _ => ∃ (m b fl pl : Addr) (pv : V) (n kd : Int) (its : List Itm) (path : List (Int × Nat)) (O : Addr → Prop) (M : MT) (D i i0 : Nat) (s' : PgS), vs = [.ref m, .ref pl, .int n, pv] ∧ SI K H H m b fl pl O D i0 s' n pv kd its path O M i ∧ i0 ≤ 300000 ∧ path.length ≤ 1000 ∧ D ≤ 8 ∧
  ∀ H' O' M' i' mm' f' tk', MtAt K H' m b fl O' M' → R17 D i' s' mm' f' tk' M' → i' ≤ i0 + 1 → Kp (fun x => G3 m b fl x ∨ x = pl) H H' → (∀ x, O' x → O x ∨ H x = none) → Q .non H'
theorem ok__law_settled (T : Txt K mg c) : GF P w K mg base CX0 4 "_law_settled" (sp_settled17 K) := by
  obtain ⟨f, fd, F, gm⟩ := T.f__law_settled
  refine ⟨f, fd, ["_law_model", "_law_path", "_law_number", "_law_page_here"], F.ok sc__law_settled ?_ (fun cdv A outer s0 H vs Q E hr h => ?_), gm, F.kp, (F.binds (ps := ["_law_model", "_law_path", "_law_number", "_law_page_here"]) fun _ _ _ _ _ _ us hl => match us, hl with | [_, _, _, _], _ => rfl)⟩
  · rintro vs H Q E ⟨_, _, _, _, _, _, _, _, _, _, _, _, _, _, _, rfl, _⟩
    rfl
  · obtain ⟨m, b, fl, pl, pv0, n0, kd0, its0, path0, O0, M0, D, ii0, i0, s', rfl, S0, li0, lp0, hD, k⟩ := h
    refine ⟨_, (pss_cons (ps_set (i := 4) sc__law_settled.nd rfl (Or.inl rfl) (pe_dget (hu_of hr) (pv 0) pe_str (fun _ _ => rfl)))
      (pss_cons (ps_set (i := 5) sc__law_settled.nd rfl (Or.inl rfl) (pe_g (ok__law_parts T) (hr.mono (by decide)) pass0S (pa_cons (pv 3) pa_nil)))
      (pss_cons (ps_while PassesOwn.never (PW.pt (pw_or (pt_cmpR op_gt (pe_op op_add pe_int (pe_callB (r := rSum K) (cr_sum rfl) (by rfl) T.z_sum (by decide +kernel) (pa_cons (pe_lc (own := [("_law_part", 13)]) (g := (gName 13)) (tt := tYes) rfl sc__law_settled.nd (pi_listK rfl (pv 5)) (blkOk_by (N := ["_law_model", "_law_path", "_law_number", "_law_page_here", "_law_pages", "_law_parts_here", "_law_count", "_law_kind", "_law_items", "_law_second", "_law_first", "_law_place", "_law_children", "_law_part"]) (sc := defScope s__law_settled) (by decide +kernel)) (fun _ _ _ _ _ => (pg_name (i := 13) sc__law_settled.nd rfl (Or.inl rfl))) (fun _ _ _ _ _ => pts_nil) (fun _ _ _ _ _ => (pe_callB (r := rLenQ K) c_len (by rfl) T.z_len PySem.boot_len (pa_cons (pv 13) pa_nil)))) pa_nil))) pe_int (nomark _)) (pw_or1 (PW.pt (pw_and (pt_cmpR op_eq (pe_ix (r := rIxT K) ix_tup (pv 3) pe_int (fun _ _ => rfl)) pe_int (nomark _)) (pw_and1 (pt_cmpR op_gt (pe_callB (r := rLenQ K) c_len (by rfl) T.z_len PySem.boot_len (pa_cons (pv 5) pa_nil)) pe_int (nomark _)))))))) (pss_cons (ps_set (i := 6) sc__law_settled.nd rfl (Or.inl rfl) (pe_g (ok__law_split_place T) (hr.mono (by decide)) pass0S (pa_cons (pv 5) pa_nil)))
      (pss_cons (ps_asg (pv 3) (pg_kT rfl (pg_tup (n := 2) rfl (pgs_cons (pg_name (i := 7) sc__law_settled.nd rfl (Or.inl rfl)) (pgs_cons (pg_name (i := 8) sc__law_settled.nd rfl (Or.inl rfl)) pgs_nil)))))
      (pss_cons (ps_set (i := 9) sc__law_settled.nd rfl (Or.inl rfl) (pe_g (ok__law_taken T) (hr.mono (by decide)) pass0S (pa_cons (pv 0) pa_nil)))
      (pss_cons (ps_dput (hu_of hr) (pv 4) (pv 9) (pe_tup (pa_cons (pv 7) (pa_cons (pe_slice (r := rSlL K) sl_list (pv 8) (po_some (pv 6)) po_none) pa_nil))) rfl)
      (C8.pss_cut (ps_if (pt_cmpR op_eq (pe_callB (r := rLenQ K) c_len (by rfl) T.z_len PySem.boot_len (pa_cons (pv 1) pa_nil)) pe_int (nomark _)) (pss_cons (ps_set (i := 10) sc__law_settled.nd rfl (Or.inl rfl) (pe_g (ok__law_taken T) (hr.mono (by decide)) pass0S (pa_cons (pv 0) pa_nil)))
      (pss_cons (ps_dput (hu_of hr) (pv 4) (pv 10) (pe_tup (pa_cons (pv 7) (pa_cons (pe_slice (r := rSlL K) sl_list (pv 8) po_none (po_some (pv 6))) pa_nil))) rfl)
      (pss_one (ps_set (i := 3) sc__law_settled.nd rfl (Or.inl rfl) (pe_tup (pa_cons pe_int (pa_cons (pe_lst (pa_cons (pe_op (r := rCatA K) op_catA (pe_slice (r := rSlA K) sl_tupA (pe_ix (r := rIxL K) ix_list (pv 8) pe_int (fun _ _ => rfl)) po_none (po_some pe_int)) (pe_tup (pa_cons (pv 10) pa_nil))) (pa_cons (pe_op (r := rCatA K) op_catA (pe_slice (r := rSlA K) sl_tupA (pe_ix (r := rIxL K) ix_list (pv 8) (pv 6) (fun _ _ => rfl)) po_none (po_some pe_int)) (pe_tup (pa_cons (pv 9) pa_nil))) pa_nil))) pa_nil))))))) (pss_cons (ps_dput (hu_of hr) (pv 4) (pv 2) (pe_tup (pa_cons (pv 7) (pa_cons (pe_slice (r := rSlL K) sl_list (pv 8) po_none (po_some (pv 6))) pa_nil))) rfl)
      (pss_cons (ps_asg (pe_kBM0 rfl (pe_bm0 PySem.F.plainAttrs_list PySem.F.slot_list_pop PySem.F.type_list_pop mt_pop (pv 1))) (pg_kT rfl (pg_tup (n := 2) rfl (pgs_cons (pg_name (i := 2) sc__law_settled.nd rfl (Or.inl rfl)) (pgs_cons (pg_name (i := 11) sc__law_settled.nd rfl (Or.inl rfl)) pgs_nil)))))
      (pss_cons (ps_set (i := 12) sc__law_settled.nd rfl (Or.inl rfl) (pe_ix (r := rIxT K) ix_tup (pe_dget (hu_of hr) (pv 4) (pv 2) (fun _ _ => rfl)) pe_int (fun _ _ => rfl)))
      (pss_one (ps_set (i := 3) sc__law_settled.nd rfl (Or.inl rfl) (pe_tup (pa_cons pe_int (pa_cons (pe_op op_cat (pe_op op_cat (pe_slice (r := rSlL K) sl_list (pv 12) po_none (po_some (pe_op op_add (pv 11) pe_int))) (pe_lst (pa_cons (pe_op (r := rCatA K) op_catA (pe_slice (r := rSlA K) sl_tupA (pe_ix (r := rIxL K) ix_list (pv 8) (pv 6) (fun _ _ => rfl)) po_none (po_some pe_int)) (pe_tup (pa_cons (pv 9) pa_nil))) pa_nil))) (pe_slice (r := rSlL K) sl_list (pv 12) (po_some (pe_op op_add (pv 11) pe_int)) po_none)) pa_nil)))))))))
      (pss_one (ps_set (i := 5) sc__law_settled.nd rfl (Or.inl rfl) (pe_g (ok__law_parts T) (hr.mono (by decide)) pass0S (pa_cons (pv 3) pa_nil))))))))))
      (pss_one (ps_dput (hu_of hr) (pv 4) (pv 2) (pv 3) rfl))))), ?_⟩
    have kk0 := S0.r
    obtain ⟨s00, mm0, f0, tk0, R0, sv0, hn0, hq0⟩ := kk0
    have si0 := sv0.si
    obtain ⟨kvs0, hm0, hb0, _, _⟩ := S0.hM.dict
    obtain ⟨t0, l0, ws0, rfl, ht0, hl0, hv0, _, _⟩ := id S0.pg
    have lz0 := si0.lz
    walk_at "cx"
    walk_at "rd"
    refine ⟨t0, l0, ws0, kd0, its0, rfl, SqT.of ht0, hl0, hv0, si0.k, si0.kk, by omega, fun pr1 us1 H1 hpr1 k1 e1 hp1 => ?_⟩
    walk_at "rd"
    refine x_wh (fun mz σ H' => ∃ n pv kd its path O M i pr us u6 u7 u8 u9 u10 u11 u12, mz = 2 * path.length + (if tooL kd its then 1 else 0) ∧ σ = [some (.ref m), some (.ref pl), some (.int n), some pv, some (.ref b), some (.ref pr), u6, u7, u8, u9, u10, u11, u12, none] ∧ SI K H H' m b fl pl O0 D i0 s' n pv kd its path O M i ∧ H' pr = some (.lst us) ∧ Paired (PartV pr H') us its ∧ path.length ≤ 1000) ?_ ?_
    · exact ⟨_, n0, _, kd0, its0, path0, O0, M0, ii0, pr1, us1, none, none, none, none, none, none, none, rfl, rfl, S0.pure k1, e1, hp1, lp0⟩
    · rintro mz σ H2 ⟨n, pv, kd, its, path, O, M, i, pr, us, u6, u7, u8, u9, u10, u11, u12, rfl, rfl, S, epr, hpt, lpa⟩
      obtain ⟨s, mm, f, tk, R, sv, hn, hq⟩ := S.r
      have si := sv.si
      have kk := si.kk
      have lz := si.lz
      have ok := S.ok
      obtain ⟨t, l, ws, rfl, ht, hl, hv, ol, nlf⟩ := id S.pg
      have lu := hpt.length
      have lw := hv.length
      have ls : (isz its).length = its.length := by unfold isz; rw [List.length_map]
      have tls := tooL_sum kk ok
      have esum : ∀ xs : List Nat, (xs.map fun n : Nat => (n : Int)).sum = (xs.sum : Nat) := fun xs => by
        induction xs with
        | nil => rfl
        | cons a t ih => rw [List.map_cons, List.sum_cons, List.sum_cons, ih]; push_cast; rfl
      walk_at "rd"
      refine wlcP (ys := (isz its).map fun n : Nat => V.int (n : Int)) (Wk.list (xs := us)) (by rw [List.length_map, ls, lu]) (by omega) (fun H' s => SqL.of (s.get epr id)) (fun j x y H' R ex ey kp hR => ?_) (fun z H3 hz k3 e3 => ?_)
      · obtain ⟨it, ei, li, rfl, hli, _⟩ := pgt hpt ex
        unfold isz at ey
        rw [List.getElem?_map, List.getElem?_map, ei] at ey
        cases ey
        have hli' := kp.get hli id
        walk_at "rd"
        refine ⟨rfl, ?_⟩
        walk_at "rd"
        rw [List.length_map]
        exact hR H' (Kp.refl _)
      · have e3' : H3 z = some (.lst (((isz its).map fun n : Nat => (n : Int)).map V.int)) := by rw [e3, List.map_map]; rfl
        have S3 := S.pure k3
        have ht3 := k3.tup ht
        have hl3 := k3.get hl id
        have hpr3 := k3.get epr id
        have hpt3 : Paired (PartV pr H3) us its := hpt.mono fun _ _ z => z.kp k3 fun _ z => z.elim
        walk_at "rd"
        refine x_sum (SqL.of e3') ?_
        rw [esum]
        walk_at "rd"
        by_cases tl : tooL kd its
        · have pos : 0 < its.length := by
            rcases tls.mp tl with h | ⟨_, h⟩
            · cases its with
              | nil => exact absurd h (by decide)
              | cons x r => simp
            · omega
          refine if_nest ?_ fun hb rest => ?_
          rotate_left
          · have c1 := of_decide_eq_false hb
            rcases tls.mp tl with h | ⟨rfl, h⟩
            · exact absurd (by push_cast; omega) c1
            · walk_at "rd"
              rw [decide_eq_true rfl]
              walk_at "rd"
              rw [lu, decide_eq_true (by omega)]
              first | exact rest | exact x_ifTT rest
          · refine ⟨_, fun σ' H' z => z, ?_⟩
            walk_at "rd"
            refine ⟨pr, pr, us, its, rfl, hpr3, hpt3, pos, by omega, fun H4 k4 => ?_⟩
            have S4 := S3.pure k4
            have ht4 := k4.tup ht3
            walk_at "rd"
            refine ⟨m, b, fl, O, M, rfl, S4.hM, fun H5 O5 hM5 st5 => ?_⟩
            have P5 := S4.pg.sm st5 S4.hM
            have ht5 := st5.kp.tup ht4
            obtain ⟨ws', hl5, hv5, ol5, _, lv5⟩ := P5.same ht5
            obtain ⟨kv5, hm5, hb5, lk5, at5⟩ := hM5.dict
            have g4 := S4.hM.own3
            obtain ⟨pvs, hpl4, hpv4⟩ := S4.hp
            obtain ⟨hpl5, np5⟩ := st5.kpn g4 hpl4 S4.np
            have hpv5 : Paired (PthV K H5) pvs path := hpv4.mono fun _ _ z => z.kp st5.kp
            have lpv := hpv4.length
            have hle : hk its ≤ ws'.length := by rw [lv5]; have := hcnt_len (isz its).sum (isz its) 0; unfold hk; omega
            walk_at "rd"
            refine x_slL (SqL.of hl5) fun l6 H6 hl6 k6 e6 => ?_
            rw [cutW_from hle] at e6
            have hl56 := k6.get hl5 id
            walk_at "rd"
            refine x_newT fun t7 H7 ht7 k7 e7 => ?_
            have k57 : Kp F0 H5 H7 := k6.trans k7 fun _ z => z.elim
            have hb7 := k57.get hb5 id
            have szR := R.sz
            have hi := S.hi
            rw [if_pos tl] at hi
            have m5 := (mtake_of R.free R.many).2.2.2.2
            walk_at "rd"
            refine x_dpI hb7 (by omega) fun H8 e8 k8 => ?_
            obtain ⟨hM8, st58⟩ := hM5.storeN k57 hl6 (k7.get e6 id) e7 (pr_drop _ (hv5.mono fun _ _ z => z.kp k57)) hb5 k8 e8
            have st8 := st5.trans st58 g4
            have P8 := S4.pg.sm st8 S4.hM
            have ht8 := st8.kp.tup ht4
            obtain ⟨hpl8, np8⟩ := st8.kpn g4 hpl4 S4.np
            have hpv8 : Paired (PthV K H8) pvs path := hpv4.mono fun _ _ z => z.kp st8.kp
            have kp8 : Kp (fun x => G3 m b fl x ∨ x = pl) H H8 := S4.kp.trans st8.kp fun x z => .inl (.inl z)
            have gr8 : ∀ x, (O5 x ∨ x = l6) → O0 x ∨ H x = none := fun x z => by
              rcases st8.gr x z with y | y
              · exact S.gr x y
              · by_cases q : G3 m b fl x
                · exact S.gr x (g4 x q)
                · by_cases q2 : x = pl
                  · rw [q2, hpl4] at y; cases y
                  · exact .inr (S4.kp.free y fun z => z.elim q q2)
            have okd : ∀ it ∈ its.drop (hk its), ItOk D kd it := fun it h => ok it (List.mem_of_mem_drop h)
            have okt : ∀ it ∈ its.take (hk its), ItOk D kd it := fun it h => ok it (List.mem_of_mem_take h)
            have fits : (encB kd (its.take (hk its))).length ≤ 256 ∧ (encB kd (its.drop (hk its))).length ≤ 256 := by
              cases sv with
              | fit _ nt _ => exact absurd tl nt
              | root _ _ e1 e2 l1 l2 => exact ⟨l1, l2⟩
              | up _ _ e1 e2 l1 l2 => exact ⟨l1, l2⟩
            obtain ⟨ea, nit, R8⟩ := R.aput (by omega) kk okd fits.2
            have apos := R8.F.pos (n := (palloc s).2) (by simp)
            have amb := R8.F.mb
            walk_at "rd"
            refine x_cut (fun σ' H' => ∃ n pv kd' its' path' O M i' pr u6 u7 u8 u9 u10 u11 u12, 2 * path'.length + (if tooL kd' its' then 1 else 0) < 2 * path.length + 1 ∧ path'.length ≤ 1000 ∧ σ' = [some (.ref m), some (.ref pl), some (.int n), some pv, some (.ref b), some (.ref pr), u6, u7, u8, u9, u10, u11, u12, none] ∧ SI K H H' m b fl pl O0 D i0 s' n pv kd' its' path' O M i') ?_ ?_
            · walk_at "rd"
              rw [lpv]
              cases sv with
              | fit _ nt _ => exact absurd tl nt
              | root siR tlR e1 e2 l1 l2 eA es1 ez eB es2 =>
                rename_i s1 s2 a b2 fI gI
                subst eA es1
                rw [decide_eq_true (by rfl)]
                walk_at "rd"
                refine ⟨m, b, fl, _, _, rfl, hM8, fun H9 O9 hM9 st9 => ?_⟩
                have g8 := hM8.own3
                have P9 := P8.sm st9 hM8
                have ht9 := st9.kp.tup ht8
                obtain ⟨ws9, hl9, hv9, ol9, _, lv9⟩ := P9.same ht9
                obtain ⟨kv9, hm9, hb9, lk9, at9⟩ := hM9.dict
                have hle9 : hk its ≤ ws9.length := by rw [lv9]; have := hcnt_len (isz its).sum (isz its) 0; unfold hk; omega
                walk_at "rd"
                refine x_slL (SqL.of hl9) fun l10 H10 hl10 k10 e10 => ?_
                rw [cutW_to hle9] at e10
                walk_at "rd"
                refine x_newT fun t11 H11 ht11 k11 e11 => ?_
                have k911 : Kp F0 H9 H11 := k10.trans k11 fun _ z => z.elim
                have hb11 := k911.get hb9 id
                have sz8 := R8.sz
                have m9 : kv9.length ≤ 4 * (i + 2) := Nat.le_trans lk9 (by rw [(mtake_of R8.free R8.many).2.2.2.2]; exact R8.sz)
                obtain ⟨eb, nib, R12⟩ := R8.aput (by omega) kk okt fits.1
                walk_at "rd"
                refine x_dpI hb11 (by omega) fun H12 e12 k12 => ?_
                obtain ⟨hM12, st912⟩ := hM9.storeN k911 hl10 (k11.get e10 id) e11 (pr_take _ (hv9.mono fun _ _ z => z.kp k911)) hb9 k12 e12
                have st12 := st9.trans st912 g8
                have P12 := P8.sm st12 hM8
                obtain ⟨hpl12, np12⟩ := st12.kpn g8 hpl8 np8
                have hpv12 : Paired (PthV K H12) pvs [] := hpv8.mono fun _ _ z => z.kp st12.kp
                have bpos := R12.F.pos (n := (palloc (pwr (palloc s).2 (pad (encB kd (its.drop (hk its)))) (palloc s).1)).2) (by simp)
                have bmb := R12.F.mb
                have ht12 := st12.kp.tup ht8
                obtain ⟨ws13, hl13, hv13, ol13, nl13, _⟩ := P12.same ht12
                have hfI : its[0]? = some fI := by
                  have h0 : 0 < (its.take (hk its)).length := (List.getElem?_eq_some_iff.mp e1).1
                  rw [List.length_take] at h0
                  rw [List.getElem?_take_of_lt (by omega)] at e1
                  exact e1
                have hgI : its[hk its]? = some gI := by
                  rw [List.getElem?_drop, Nat.add_zero] at e2
                  exact e2
                obtain ⟨v1, ev1, hi1⟩ := pgetr hv13 hfI
                obtain ⟨v2, ev2, hi2⟩ := pgetr hv13 hgI
                obtain ⟨tf, rf, rfl, htf, _⟩ := hi1.three
                obtain ⟨tg, rg, rfl, htg, _⟩ := hi2.three
                walk_at "rd"
                refine x_ixL (v := .ref tf) (SqL.of hl13) (atI_at 0 rfl ev1) ?_
                walk_at "rd"
                refine x_slT htf fun t14 H14 k14 e14 => ?_
                have e14' : SqT K H14 t14 [.int fI.a, .int fI.b] := e14
                walk_at "rd"
                refine x_newT fun t15 H15 ht15 k15 e15 => ?_
                walk_at "rd"
                refine x_catT (k15.sqT e14') (SqT.of e15) (Nat.le_of_ble_eq_true rfl) fun t16 H16 k16 e16 => ?_
                have k1216 : Kp F0 H12 H16 := (k14.trans k15 fun _ z => z.elim).trans k16 fun _ z => z.elim
                have hl16 := k1216.get hl13 id
                walk_at "rd"
                refine x_ixL (v := .ref tg) (SqL.of hl16) (atI_at _ rfl ev2) ?_
                walk_at "rd"
                refine x_slT (k1216.sqT htg) fun t17 H17 k17 e17 => ?_
                have e17' : SqT K H17 t17 [.int gI.a, .int gI.b] := e17
                walk_at "rd"
                refine x_newT fun t18 H18 ht18 k18 e18 => ?_
                walk_at "rd"
                refine x_catT (k18.sqT e17') (SqT.of e18) (Nat.le_of_ble_eq_true rfl) fun t19 H19 k19 e19 => ?_
                have k1619 : Kp F0 H16 H19 := (k17.trans k18 fun _ z => z.elim).trans k19 fun _ z => z.elim
                walk_at "rd"
                refine x_newL fun l20 H20 hl20 k20 e20 => ?_
                walk_at "rd"
                refine x_newT fun t21 H21 ht21 k21 e21 => ?_
                walk_at "rd"
                have k1220 : Kp F0 H12 H20 := (k1216.trans k1619 fun _ z => z.elim).trans k20 fun _ z => z.elim
                have k1221 : Kp F0 H12 H21 := k1220.trans k21 fun _ z => z.elim
                have fl20 : H12 l20 = none := (k1216.trans k1619 fun _ z => z.elim).free hl20 id
                obtain ⟨hM21, st21, nf21⟩ := hM12.join k1221 fl20 ⟨_, k21.get e20 id⟩
                have hf0 : its.take (hk its) ≠ [] := fun z => by rw [z] at e1; simp at e1
                have okF : ItOk D kd fI := ok fI (List.mem_of_getElem? hfI)
                have okG : ItOk D kd gI := ok gI (List.mem_of_getElem? hgI)
                have amb2 := R8.F.mb
                have a1 := R8.F.pos (n := (palloc s).2) (by simp)
                have okn : ∀ x ∈ [chI fI.a fI.b (mtake (mput (mtake M).1 (mtake M).2 (kd, its.drop (hk its)))).2, chI gI.a gI.b (mtake M).2], ItOk D 2 x := fun x hx => by
                  rcases List.mem_cons.mp hx with rfl | hx
                  · exact okF.ch (by rw [eb]; omega) (by rw [eb]; omega)
                  · rw [List.mem_singleton.mp hx]; exact okG.ch (by rw [ea]; omega) (by rw [ea]; omega)
                have nt2 : ¬ tooL 2 [chI fI.a fI.b (mtake (mput (mtake M).1 (mtake M).2 (kd, its.drop (hk its)))).2, chI gI.a gI.b (mtake M).2] := by
                  unfold tooL; rw [if_pos rfl]; exact Nat.not_lt.mpr (Nat.le_of_ble_eq_true rfl)
                have g12 := hM12.own3
                have stall := st12.trans st21 g8
                refine ⟨n, .ref t21, 2, _, [], _, _, i + 4, pr, _, _, _, _, _, _, _, ?_, Nat.zero_le _, rfl, ⟨hM21, ⟨t21, l20, _, rfl, e21, k21.get e20 id, .cons (chI_W (a := fI.a) (b := fI.b) ?_) (.cons (chI_W (a := gI.a) (b := gI.b) ?_) .nil), .inr rfl, nf21⟩, ⟨pvs, ?_, hpv12.mono fun _ _ z => z.kp k1221⟩, ?_, ⟨_, _, _, _, R12, ?_, by simp [hn], fun q z => by simp at z⟩, okn, ?_, ?_, ?_⟩⟩
                · rw [if_neg nt2]; show 0 < 0 + 1; decide
                · exact k21.sqT (k20.sqT (k1619.sqT e16))
                · exact k21.sqT (k20.sqT e19)
                · exact k1221.get hpl12 id
                · exact fun z => by
                    rcases z with z | z
                    · exact np12 z
                    · rw [z, fl20] at hpl12; cases hpl12
                · have sI : SvI 2 [chI fI.a fI.b (mtake (mput (mtake M).1 (mtake M).2 (kd, its.drop (hk its)))).2, chI gI.a gI.b (mtake M).2] (pwr (palloc (pwr (palloc s).2 (pad (encB kd (its.drop (hk its)))) (palloc s).1)).2 (pad (encB kd (its.take (hk its)))) (palloc (pwr (palloc s).2 (pad (encB kd (its.drop (hk its)))) (palloc s).1)).1) := by
                    have dl := R12.F.dl
                    exact ⟨fun x hx => (okn x hx).kd (by omega), .inr rfl, by show (2 : Nat) ≤ 900; decide, by omega, R12.F.z 0⟩
                  have sf := Sv.fit (path := []) (n := n) (D := D) sI nt2 (by show (26 : Nat) ≤ 256; decide)
                  rw [es2, eB]
                  rw [eb, ea] at sf ⊢
                  exact sf
                · rw [if_neg nt2]
                  rw [List.length_nil] at hi ⊢
                  omega
                · exact (kp8.trans stall.kp fun x z => .inl (.inl z))
                · intro x z
                  rcases stall.gr x z with y | y
                  · exact gr8 x y
                  · by_cases q : G3 m b fl x
                    · exact gr8 x (g8 x q)
                    · by_cases q2 : x = pl
                      · rw [q2, hpl8] at y; cases y
                      · exact .inr (kp8.free y fun z => z.elim q q2)
              | up siR tlR e1 e2 l1 l2 eA es1 es2 dcs hpl sv' =>
                rename_i path' pc par cs s1 s2 a fI gI
                subst eA es1 es2
                obtain ⟨pv5', xv, epv, hpv5', t9', ext, ht9'⟩ := pr_snoc hpv8
                rw [ext] at epv
                have P8' := P8
                obtain ⟨ws9, hl9, hv9, ol9, _, lv9⟩ := P8.same ht8
                obtain ⟨kv8, hm8, hb8, lk8, at8⟩ := hM8.dict
                have g8 := hM8.own3
                have hle9 : hk its ≤ ws9.length := by rw [lv9]; have := hcnt_len (isz its).sum (isz its) 0; unfold hk; omega
                rw [decide_eq_false (by rw [List.length_append, List.length_singleton]; omega)]
                walk_at "rd"
                refine x_slL (SqL.of hl9) fun l10 H10 hl10 k10 e10 => ?_
                rw [cutW_to hle9] at e10
                walk_at "rd"
                refine x_newT fun t11 H11 ht11 k11 e11 => ?_
                have k911 : Kp F0 H8 H11 := k10.trans k11 fun _ z => z.elim
                have hb11 := k911.get hb8 id
                have sz8 : kv8.length ≤ 4 * (i + 2) := Nat.le_trans lk8 R8.sz
                have nA : n ∈ (palloc s).2 :: tk := by simp [hn]
                have R12 := R8.put nA kk okt fits.1
                walk_at "rd"
                refine x_dpI hb11 (by omega) fun H12 e12 k12 => ?_
                obtain ⟨hM12, st12⟩ := hM8.storeN k911 hl10 (k11.get e10 id) e11 (pr_take _ (hv9.mono fun _ _ z => z.kp k911)) hb8 k12 e12
                have P12 := P8.sm st12 hM8
                obtain ⟨hpl12, np12⟩ := st12.kpn g8 hpl8 np8
                have hpv12 : Paired (PthV K H12) pv5' path' := hpv5'.mono fun _ _ z => z.kp st12.kp
                have ht12' := st12.kp.sqT ht9'
                rw [epv] at hpl12
                walk_at "rd"
                refine ⟨pl, pv5' ++ [.ref t9'], .ref t9', rfl, rfl, hpl12, by simp, ?_⟩
                rw [List.dropLast_concat]
                have k13 : Kp (F1 pl) H12 (upd H12 pl (.lst pv5')) := Kp.put hpl12 id
                have e13 : (upd H12 pl (.lst pv5') : Hp) pl = some (.lst pv5') := upd_same
                generalize upd H12 pl (.lst pv5') = H13 at k13 e13 ⊢
                have hM13 := hM12.off k13 fun x z => by rw [z]; exact np12
                have P13 := P12.kp k13 fun x o oo z _ => absurd (by rw [← show x = pl from z]; exact oo) np12
                have ht13' := k13.sqT ht12'
                have parT : par ∈ (palloc s).2 :: tk := by
                  have := hq (par, pc) (by simp)
                  simp [this]
                have Mpar := R12.at parT dcs
                obtain ⟨kv13, hm13, hb13, lk13, at13⟩ := hM13.dict
                obtain ⟨vp, evp, tp, lp, wsp, rfl, htp, hlp, hvp, olp, nlp⟩ := at13 par _ Mpar
                have lwp : wsp.length = cs.length := hvp.length
                walk_at "rd"
                refine x_dgI (.inl hb13) evp ?_
                walk_at "rd"
                have ht14 := k13.tup (st12.kp.tup ht8)
                obtain ⟨ws14, hl14, hv14, ol14, nl14, _⟩ := P13.same ht14
                have hgI : its[hk its]? = some gI := by
                  rw [List.getElem?_drop, Nat.add_zero] at e2
                  exact e2
                obtain ⟨v2, ev2, hi2⟩ := pgetr hv14 hgI
                obtain ⟨tg, rg, rfl, htg, _⟩ := hi2.three
                refine x_slL (SqL.of hlp) fun l15 H15 hl15 k15 e15 => ?_
                rw [show ((pc : Int) + 1) = ((pc + 1 : Nat) : Int) by omega, cutW_to (by omega)] at e15
                have hl1415 := k15.get hl14 id
                walk_at "rd"
                refine x_ixL (v := .ref tg) (SqL.of hl1415) (atI_at _ rfl ev2) ?_
                walk_at "rd"
                refine x_slT (k15.sqT htg) fun t16 H16 k16 e16 => ?_
                have e16' : SqT K H16 t16 [.int gI.a, .int gI.b] := e16
                walk_at "rd"
                refine x_newT fun t17 H17 ht17 k17 e17 => ?_
                walk_at "rd"
                refine x_catT (k17.sqT e16') (SqT.of e17) (Nat.le_of_ble_eq_true rfl) fun t18 H18 k18 e18 => ?_
                walk_at "rd"
                refine x_newL fun l19 H19 hl19 k19 e19 => ?_
                have k1519 : Kp F0 H15 H19 := ((k16.trans k17 fun _ z => z.elim).trans k18 fun _ z => z.elim).trans k19 fun _ z => z.elim
                have lcs := dcs.lz
                walk_at "rd"
                refine x_catL (k1519.get e15 id) e19 (by rw [List.length_take, List.length_singleton, sizeLine_eq]; omega) fun l20 H20 hl20 k20 e20 => ?_
                have k1320 : Kp F0 H13 H20 := (k15.trans k1519 fun _ z => z.elim).trans k20 fun _ z => z.elim
                have hlp20 := k1320.get hlp id
                walk_at "rd"
                refine x_slL (SqL.of hlp20) fun l21 H21 hl21 k21 e21 => ?_
                rw [show ((pc : Int) + 1) = ((pc + 1 : Nat) : Int) by omega, cutW_from (by omega)] at e21
                walk_at "rd"
                refine x_catL (k21.get e20 id) e21 (by rw [List.length_append, List.length_take, List.length_drop, List.length_singleton, sizeLine_eq]; omega) fun l22 H22 hl22 k22 e22 => ?_
                walk_at "rd"
                refine x_newT fun t23 H23 ht23 k23 e23 => ?_
                walk_at "rd"
                have k1322 : Kp F0 H13 H22 := (k1320.trans k21 fun _ z => z.elim).trans k22 fun _ z => z.elim
                have k1323 : Kp F0 H13 H23 := k1322.trans k23 fun _ z => z.elim
                have fl22 : H13 l22 = none := (k1320.trans k21 fun _ z => z.elim).free hl22 id
                obtain ⟨hM23, st23, nf23⟩ := hM13.join k1323 fl22 ⟨_, k23.get e22 id⟩
                have okG : ItOk D kd gI := ok gI (List.mem_of_getElem? hgI)
                have okcs := dcs.ok
                have okn : ∀ x ∈ cs.take (pc + 1) ++ [chI gI.a gI.b (mtake M).2] ++ cs.drop (pc + 1), ItOk D 2 x := fun x hx => by
                  rcases List.mem_append.mp hx with hx | hx
                  · rcases List.mem_append.mp hx with hx | hx
                    · exact okcs x (List.mem_of_mem_take hx)
                    · rw [List.mem_singleton.mp hx]; exact okG.ch (by rw [ea]; omega) (by rw [ea]; omega)
                  · exact okcs x (List.mem_of_mem_drop hx)
                have kvp : ItWs K H23 (wsp.take (pc + 1) ++ [V.ref t18] ++ wsp.drop (pc + 1)) (cs.take (pc + 1) ++ [chI gI.a gI.b (mtake M).2] ++ cs.drop (pc + 1)) := by
                  have hvp' : ItWs K H23 wsp cs := hvp.mono fun _ _ z => z.kp k1323
                  refine pr_app (pr_app (pr_take _ hvp') (.cons (chI_W ?_) .nil)) (pr_drop _ hvp')
                  exact k23.sqT (k22.sqT (k21.sqT (k20.sqT (k19.sqT e18))))
                refine ⟨par, .ref t23, 2, _, path', _, _, i + 3, pr, _, _, _, _, _, _, _, ?_, ?_, rfl, ⟨hM23, ⟨t23, l22, _, rfl, e23, k23.get e22 id, kvp, .inr rfl, nf23⟩, ⟨pv5', k1323.get e13 id, (hpv12.mono fun _ _ z => z.kp k13).mono fun _ _ z => z.kp k1323⟩, ?_, ⟨_, _, _, _, R12, by rw [ea]; exact sv', parT, fun q z => ?_⟩, okn, ?_, ?_, ?_⟩⟩
                · rw [List.length_append, List.length_singleton]; split <;> omega
                · rw [List.length_append] at lpa; omega
                · exact fun z => by
                    rcases z with z | z
                    · exact np12 z
                    · rw [z, fl22] at e13; cases e13
                · have := hq q (by simp [z])
                  simp [this]
                · rw [List.length_append, List.length_singleton] at hi
                  split <;> omega
                · exact ((kp8.trans st12.kp fun x z => .inl (.inl z)).trans k13 fun x z => .inl (.inr z)).trans k1323 fun _ z => z.elim
                · intro x z
                  have np : x ≠ pl ∨ x = pl := (Decidable.em (x = pl)).symm
                  rcases z with z | z
                  · rcases st12.gr x z with y | y
                    · exact gr8 x y
                    · by_cases q : G3 m b fl x
                      · exact gr8 x (g8 x q)
                      · rcases np with q2 | q2
                        · exact .inr (kp8.free y fun z => z.elim q q2)
                        · rw [q2, hpl8] at y; cases y
                  · rw [z]
                    have fl12 : H12 l22 = none := by
                      cases hh : H12 l22 with
                      | none => rfl
                      | some o =>
                        by_cases q2 : l22 = pl
                        · rw [q2, e13] at fl22; cases fl22
                        · rw [k13.get hh q2] at fl22; cases fl22
                    have n3 : ¬ G3 m b fl l22 := fun q => by
                      obtain ⟨o, ho⟩ := hM12.2 l22 (hM12.own3 _ q)
                      rw [fl12] at ho; cases ho
                    have fl8 : H8 l22 = none := st12.kp.free fl12 n3
                    have npp : l22 ≠ pl := fun q2 => by rw [q2, hpl8] at fl8; cases fl8
                    exact .inr (kp8.free fl8 fun z => z.elim n3 npp)
            · rintro σ' H9 ⟨n', pv', kd', its', path', O', M', i', pr', u6', u7', u8', u9', u10', u11', u12', lt, lpp, rfl, S9⟩
              obtain ⟨s9, mm9, f9, tk9, R9, sv9, hn9, hq9⟩ := S9.r
              have si9 := sv9.si
              have lz9 := si9.lz
              obtain ⟨t9, l9, ws9, rfl, ht9, hl9, hv9, _, _⟩ := id S9.pg
              walk_at "rd"
              refine ⟨t9, l9, ws9, kd', its', rfl, SqT.of ht9, hl9, hv9, si9.k, si9.kk, by omega, fun pr1 us1 H10 hpr1 k10 e10 hp10 => ?_⟩
              walk_at "rd"
              exact ⟨2 * path'.length + (if tooL kd' its' then 1 else 0), by rw [if_pos tl]; exact lt, n', _, kd', its', path', O', M', i', pr1, us1, _, _, _, _, _, _, _, rfl, rfl, S9.pure k10, e10, hp10, lpp⟩
        · have n1 : ¬ (256 < 2 + (isz its).sum) := fun z => tl (tls.mpr (.inl z))
          have n2 : ¬ (kd = 2 ∧ 20 < its.length) := fun z => tl (tls.mpr (.inr z))
          rw [decide_eq_false (by push_cast; omega)]
          walk_at "rd"
          refine if_both ?_ fun hb rest => ?_
          · walk_at "rd"
            cases sv with
            | fit si' nt ft =>
              obtain ⟨kv3, hm3, hb3, lk3, at3⟩ := S3.hM.dict
              have szR := R.sz
              have hi := S.hi
              refine x_dpI hb3 (by omega) fun H4 e4 k4 => ?_
              obtain ⟨⟨kv', D3⟩, tr3⟩ := id S3.hM
              have ek : kv' = kv3 := by
                have := D3.hb
                rw [hb3] at this
                cases this; rfl
              subst ek
              obtain ⟨hM4, st4⟩ := D3.store tr3 S3.pg k4 e4
              have R4 := R.put hn kk ok ft
              refine k H4 _ _ (i + 1) _ _ _ hM4 R4 (by split at hi <;> omega) (S3.kp.trans st4.kp fun x z => .inl (.inl z)) fun x z => ?_
              exact S.gr x z
            | root _ t' _ _ _ _ _ _ _ _ _ => exact absurd t' tl
            | up _ t' _ _ _ _ _ _ _ _ _ _ => exact absurd t' tl
          · have e2 := of_decide_eq_true hb
            walk_at "rd"
            rw [lu, decide_eq_false (by intro z; exact n2 ⟨e2, by omega⟩)]
            first | exact rest | exact x_ifFF rest
end
/-! ### items taken out of the law's tree -/
theorem mrel_put {M : MT} {n : Int} {q : Int × List Itm} : mrel (mput M n q) n = { mrel M n with sz := M.sz + 1 } := by
  unfold mrel mput
  congr 1
  funext x
  show (if x = n then none else if x = n then some q else M.pg x) = if x = n then none else M.pg x
  split <;> rfl
theorem R17.szu {D i : Nat} {s : PgS} {m : Int} {f t : List Int} {M : MT} (h : R17 D i s m f t M) {z : Nat} (hz : z ≤ 4 * i) : R17 D i s m f t { M with sz := z } := ⟨h.F, h.many, h.free, h.pg, h.tk, hz, h.fc⟩
theorem mput2 {M : MT} {n : Int} {q q' : Int × List Itm} : mput (mput M n q) n q' = { mput M n q' with sz := M.sz + 2 } := by
  unfold mput
  congr 1
  funext x
  show (if x = n then some q' else if x = n then some q else M.pg x) = if x = n then some q' else M.pg x
  split <;> rfl
theorem mput_at {M : MT} {n : Int} {q : Int × List Itm} : (mput M n q).pg n = some q := if_pos rfl
theorem mput_self {M : MT} {n : Int} {q : Int × List Itm} (h : M.pg n = some q) : mput M n q = { M with sz := M.sz + 1 } := by
  unfold mput
  congr 1
  funext x
  show (if x = n then some q else M.pg x) = M.pg x
  split
  · rename_i e; rw [e, h]
  · rfl
/-- a model that is the pages', but for the kind of an empty root -/
def E17 (D i : Nat) (s : PgS) (m : Int) (f t : List Int) (M : MT) : Prop := R17 D i s m f t M ∨ ∃ M0 kd z, R17 D i s m f t M0 ∧ M0.pg 1 = some (1, []) ∧ M = { mput M0 1 (kd, []) with sz := z } ∧ z ≤ 4 * i
theorem Chain.det {f : Int → Int} : ∀ {a b : List Int} {h : Int}, Chain f h a → Chain f h b → (∀ x ∈ a, x ≠ 0) → (∀ x ∈ b, x ≠ 0) → a = b
  | [], [], _, _, _, _, _ => rfl
  | [], y :: b, h, ha, hb, _, nb => by
    have h1 := ha.head
    have h2 := hb.head
    exact absurd (h2.symm.trans h1) (nb y (by simp))
  | x :: a, [], h, ha, hb, na, _ => by
    have h1 := ha.head
    have h2 := hb.head
    exact absurd (h1.symm.trans h2) (na x (by simp))
  | x :: a, y :: b, h, ha, hb, na, nb => by
    have h1 := ha.head
    have h2 := hb.head
    have e : x = y := h1.symm.trans h2
    subst e
    rw [Chain.det ha.2 hb.2 (fun z hz => na z (by simp [hz])) fun z hz => nb z (by simp [hz])]
theorem FR.same {i j : Nat} {s : PgS} {m m' : Int} {f f' t t' : List Int} (a : FR i s m f t) (b : FR j s m' f' t') : f = f' ∧ ∀ x ∈ t, x ∈ t' := by
  have e : m = m' := a.many.symm.trans b.many
  have ef : f = f' := Chain.det a.chain b.chain (fun x hx => by have := a.rg x (List.mem_append.mpr (.inl hx)); omega) fun x hx => by have := b.rg x (List.mem_append.mpr (.inl hx)); omega
  refine ⟨ef, fun x hx => ?_⟩
  have r := a.rg x (List.mem_append.mpr (.inr hx))
  rcases List.mem_append.mp (b.fu x r.1 (by omega)) with z | z
  · rw [← ef] at z
    exact absurd rfl ((List.nodup_append.mp a.nd).2.2 x z x hx)
  · exact z
theorem perm_out {t : List Int} {n : Int} (h : n ∈ t) : ∃ r, t.Perm (n :: r) := ⟨t.erase n, List.perm_cons_erase h⟩
theorem LwL.kk {D : Nat} {r : Int} {l : List Int} {kd : Int} {its : List Itm} {s s' : PgS} (h : LwL D r (x :: l) kd its s s') : kd = 2 ∧ ∃ ch, its = [ch] ∧ x = ch.c ∧ ∃ kd' its', Dec D (gpg s ch.c) kd' its' ∧ (encB kd' its').length ≤ 256 ∧ LwL D r l kd' its' (prel ch.c (pwr r (pad (encB kd' its')) s)) s' := by
  cases h with
  | step d f w => exact ⟨rfl, _, rfl, rfl, _, _, d, f, w⟩
section
variable {P : Program} {w : World} {K : PySem.W.Frag} {mg : Str → Option Value} {base : Heap} {c : Cl}
def sp_lowered17 (K : PySem.W.Frag) : Sp := fun vs H Q _ => ∃ (m b fl : Addr) (O : Addr → Prop) (M : MT) (D i : Nat) (m0 : Int) (f tk l : List Int) (s s' : PgS) (kd : Int) (its : List Itm), vs = [.ref m] ∧ MtAt K H m b fl O M ∧ E17 D i s m0 f tk M ∧ Dec D (gpg s 1) kd its ∧ (1 : Int) ∈ tk ∧ LwL D 1 l kd its s s' ∧ l.Nodup ∧ 1 ∉ l ∧ (∀ x ∈ l, x ∈ tk) ∧ (∀ its, Dec D (gpg s' 1) 2 its → its ≠ []) ∧ i + 2 * l.length + 4 ≤ 300000 ∧
  ∀ H' O' M' i' fl' m' f' tk', MtAt K H' m b fl' O' M' → R17 D i' s' m' f' tk' M' → i' ≤ i + 2 * l.length + 2 → Stp O O' H H' → Q .non H'
theorem ok__law_lowered (T : Txt K mg c) : GF P w K mg base CX0 2 "_law_lowered" (sp_lowered17 K) := by
  obtain ⟨f, fd, F, gm⟩ := T.f__law_lowered
  refine ⟨f, fd, ["_law_model"], F.ok sc__law_lowered ?_ (fun cdv A outer s0 H vs Q E hr h => ?_), gm, F.kp, (F.binds (ps := ["_law_model"]) fun _ _ _ _ _ _ us hl => match us, hl with | [_], _ => rfl)⟩
  · rintro vs H Q E ⟨_, _, _, _, _, _, _, _, _, _, _, _, _, _, _, rfl, _⟩
    rfl
  · obtain ⟨m, b, fl0, O0, M0, D, i0, m00, f0, tk0, l0, s0', s', kd0, its0, rfl, hM0, E0, dec0, h10, lw0, nd0, n10, ls0, hroot, li0, k⟩ := h
    refine ⟨_, (pss_cons (ps_set (i := 1) sc__law_lowered.nd rfl (Or.inl rfl) (pe_dget (hu_of hr) (pv 0) pe_str (fun _ _ => rfl)))
      (pss_cons (ps_while PassesOwn.never (PW.pt (pw_and (pt_cmpR op_eq (pe_ix (r := rIxT K) ix_tup (pe_dget (hu_of hr) (pv 1) pe_int (fun _ _ => rfl)) pe_int (fun _ _ => rfl)) pe_int (nomark _)) (pw_and1 (pt_cmpR op_eq (pe_callB (r := rLenQ K) c_len (by rfl) T.z_len PySem.boot_len (pa_cons (pe_ix (r := rIxT K) ix_tup (pe_dget (hu_of hr) (pv 1) pe_int (fun _ _ => rfl)) pe_int (fun _ _ => rfl)) pa_nil)) pe_int (nomark _))))) (pss_cons (ps_set (i := 2) sc__law_lowered.nd rfl (Or.inl rfl) (pe_ix (r := rIxT K) ix_tup (pe_ix (r := rIxL K) ix_list (pe_ix (r := rIxT K) ix_tup (pe_dget (hu_of hr) (pv 1) pe_int (fun _ _ => rfl)) pe_int (fun _ _ => rfl)) pe_int (fun _ _ => rfl)) pe_int (fun _ _ => rfl)))
      (pss_cons (ps_dput (hu_of hr) (pv 1) pe_int (pe_dget (hu_of hr) (pv 1) (pv 2) (fun _ _ => rfl)) rfl)
      (pss_one (ps_expr (pe_g (ok__law_released T) (hr.mono (by decide)) pass0S (pa_cons (pv 0) (pa_cons (pv 2) pa_nil))))))))
      (pss_one (ps_if (pt_cmpR op_eq (pe_callB (r := rLenQ K) c_len (by rfl) T.z_len PySem.boot_len (pa_cons (pe_ix (r := rIxT K) ix_tup (pe_dget (hu_of hr) (pv 1) pe_int (fun _ _ => rfl)) pe_int (fun _ _ => rfl)) pa_nil)) pe_int (nomark _)) (pss_one (ps_dput (hu_of hr) (pv 1) pe_int (pe_tup (pa_cons pe_int (pa_cons (pe_lst pa_nil) pa_nil))) rfl)) pss_nil)))), ?_⟩
    obtain ⟨kv0, hm0, hb0, _, _⟩ := hM0.dict
    walk_at "cx"
    walk_at "rd"
    refine x_wh (fun mz σ H' => ∃ fl O M i m1 f tk l s kd its u2, mz = l.length ∧ σ = [some (.ref m), some (.ref b), u2] ∧ MtAt K H' m b fl O M ∧ E17 D i s m1 f tk M ∧ Dec D (gpg s 1) kd its ∧ (1 : Int) ∈ tk ∧ LwL D 1 l kd its s s' ∧ l.Nodup ∧ 1 ∉ l ∧ (∀ x ∈ l, x ∈ tk) ∧ i + 2 * l.length ≤ i0 + 2 * l0.length ∧ Stp O0 O H H') ?_ ?_
    · exact ⟨_, fl0, O0, M0, i0, m00, f0, tk0, l0, s0', kd0, its0, none, rfl, rfl, hM0, E0, dec0, h10, lw0, nd0, n10, ls0, Nat.le_refl _, Stp.refl _ _⟩
    · rintro mz σ H1 ⟨fl, O, M, i, m1, f, tk, l, s, kd, its, u2, rfl, rfl, hM, E1, dec, h1, lw, nd, n1, ls, li, st⟩
      obtain ⟨kv, hm1, hb1, lk, at1⟩ := hM.dict
      have m1e : ∃ kdM itsM, M.pg 1 = some (kdM, itsM) ∧ (itsM = its) ∧ ((kdM = kd ∧ R17 D i s m1 f tk M) ∨ (its = [] ∧ kd = 1)) := by
        rcases E1 with R | ⟨M0', kdx, z, R, e1, rfl, _⟩
        · exact ⟨kd, its, R.at h1 dec, rfl, .inl ⟨rfl, R⟩⟩
        · have := R.at h1 dec
          rw [e1] at this
          cases this
          exact ⟨kdx, [], (by show (if (1 : Int) = 1 then some (kdx, ([] : List Itm)) else M0'.pg 1) = _; exact if_pos rfl), rfl, .inr ⟨rfl, rfl⟩⟩
      obtain ⟨kdM, itsM, eM, rfl, hcase⟩ := m1e
      obtain ⟨v, ev, t, lst, ws, rfl, ht, hl, hv, ol, nlf⟩ := at1 1 _ eM
      have lv : ws.length = itsM.length := hv.length
      have lz := dec.lz
      have szM : M.sz ≤ 4 * i := by
        rcases E1 with R | ⟨_, _, z, _, _, rfl, hz⟩
        · exact R.sz
        · exact hz
      walk_at "rd"
      refine x_dgI (.inl hb1) ev ?_
      walk_at "rd"
      cases l with
      | nil =>
        have hs : s = s' ∧ ¬ (kd = 2 ∧ itsM.length = 1) := by
          cases lw with
          | done h => exact ⟨rfl, h⟩
        obtain ⟨es, hdone⟩ := hs
        have nof : ¬ (kdM = 2 ∧ itsM.length = 1) := by
          rcases hcase with ⟨rfl, _⟩ | ⟨z, _⟩
          · exact hdone
          · rw [z]; exact fun y => absurd y.2 (by decide)
        have exit : ∀ {P1 : Prop}, P1 → P1 := id
        refine if_both ?_ fun hb rest => ?_
        · walk_at "rd"
          refine x_dgI (.inl hb1) ev ?_
          walk_at "rd"
          rw [lv]
          refine ite_dec (fun e => ?_) fun e => ?_
          · have e' : itsM = [] := List.eq_nil_of_length_eq_zero (by omega)
            walk_at "rd"
            refine x_newL fun l2 H2 hl2 k2 e2 => ?_
            walk_at "rd"
            refine x_newT fun t3 H3 ht3 k3 e3 => ?_
            have k13 : Kp F0 H1 H3 := k2.trans k3 fun _ z => z.elim
            have hb3 := k13.get hb1 id
            walk_at "rd"
            refine x_dpI hb3 (by omega) fun H4 e4 k4 => ?_
            obtain ⟨hM4, st4⟩ := hM.storeN (its := []) k13 hl2 (k3.get e2 id) e3 .nil hb1 k4 e4
            have g := hM.own3
            have Rf : R17 D (i + 1) s' m1 f tk (mput M 1 (1, [])) := by
              rcases E1 with R | ⟨M0', kdx, z, R, e1, rfl, hz⟩
              · have ek : kd = 1 := by
                  rcases dec.kk with z | z
                  · exact z
                  · subst z
                    rw [es, e'] at dec
                    exact absurd rfl (hroot [] dec)
                have eM1 := R.at h1 dec
                rw [ek, e'] at eM1
                rw [mput_self eM1, ← es]
                exact (R.le (Nat.le_succ _)).szu (by have := R.sz; omega)
              · rw [← es]
                have : mput { mput M0' 1 (kdx, []) with sz := z } 1 (1, []) = { M0' with sz := z + 1 } := by
                  unfold mput
                  congr 1
                  funext x
                  show (if x = 1 then some (1, []) else if x = 1 then some (kdx, []) else M0'.pg x) = M0'.pg x
                  split
                  · rename_i q; rw [q, e1]
                  · rfl
                rw [this]
                exact (R.le (Nat.le_succ _)).szu (by omega)
            exact k H4 _ _ (i + 1) fl m1 f tk hM4 Rf (by simp only [List.length_nil] at li; omega) (st.trans (st4.stp g))
          · walk_at "rd"
            have ne : itsM ≠ [] := fun z => e (by rw [z]; rfl)
            rcases hcase with ⟨rfl, R⟩ | ⟨z, _⟩
            · exact k H1 O M i fl m1 f tk hM (by rw [← es]; exact R) (by simp only [List.length_nil] at li; omega) st
            · exact absurd z ne
        · have hk2 := of_decide_eq_true hb
          walk_at "rd"
          refine x_dgI (.inl hb1) ev ?_
          walk_at "rd"
          rw [lv, decide_eq_false (by intro z; exact nof ⟨hk2, by omega⟩)]
          first | exact rest | exact x_ifFF rest
      | cons x l =>
        obtain ⟨rfl, ch, rfl, rfl, kd', its', d', ft', lw'⟩ := lw.kk
        have R : R17 D i s m1 f tk M := by
          rcases hcase with ⟨_, R⟩ | ⟨z, _⟩
          · exact R
          · exact absurd z (by simp)
        have ekM : kdM = 2 := by
          rcases hcase with ⟨e, _⟩ | ⟨z, _⟩
          · exact e
          · exact absurd z (by simp)
        subst ekM
        rw [decide_eq_true rfl]
        walk_at "rd"
        refine x_dgI (.inl hb1) ev ?_
        walk_at "rd"
        rw [lv, decide_eq_true (by rfl)]
        walk_at "rd"
        refine ⟨_, fun σ' H' z => ⟨l.length, Nat.lt_succ_self _, z⟩, ?_⟩
        cases hv with
        | cons hc hn =>
          cases hn
          rename_i vch
          obtain ⟨tc, rr, rfl, htc, _⟩ := hc.three
          walk_at "rd"
          refine x_dgI (.inl hb1) ev ?_
          walk_at "rd"
          refine x_ixT (v := .int ch.c) htc (atI_at 2 rfl rfl) ?_
          have hct : ch.c ∈ tk := ls _ (by simp)
          have nch1 : ch.c ≠ 1 := fun z => n1 (by rw [z]; simp)
          have eC := R.at hct d'
          obtain ⟨vc, evc, PC⟩ := at1 ch.c _ eC
          walk_at "rd"
          refine x_dgI (.inl hb1) evc ?_
          walk_at "rd"
          refine x_dpI hb1 (by omega) fun H2 e2 k2 => ?_
          obtain ⟨⟨kv', D1⟩, tr1⟩ := id hM
          have ek : kv' = kv := by
            have := D1.hb
            rw [hb1] at this
            cases this; rfl
          subst ek
          obtain ⟨hM2, st2⟩ := D1.store tr1 PC k2 e2
          have R2 := R.put h1 d'.kk d'.ok ft'
          have eC2 : (mput M 1 (kd', its')).pg ch.c = some (kd', its') := by
            show (if ch.c = 1 then _ else M.pg ch.c) = _
            rw [if_neg nch1, eC]
          obtain ⟨tk', pm⟩ := perm_out hct
          have R3 := (R2.perm pm).rel (by simp only [List.length_cons] at li; omega)
          have lfr : (mput M 1 (kd', its')).free.length ≤ 1000000 := by
            have l := R.F.len
            have mb := R.F.mb
            rw [List.length_append] at l
            show M.free.length ≤ _
            rw [R.free]
            simp only [List.length_cons] at li
            omega
          walk_at "rd"
          refine ⟨m, b, fl, O, _, ch.c, _, rfl, hM2, eC2, lfr, fun H3 O3 fl3 fr3 hM3 st3 => ?_⟩
          have g := hM.own3
          walk_at "rd"
          rw [List.nodup_cons] at nd
          have nd3 := R3.F.ndt
          have h13 : (1 : Int) ∈ tk' := by
            rcases List.mem_cons.mp (pm.mem_iff.mp h1) with z | z
            · exact absurd z.symm nch1
            · exact z
          refine ⟨fl3, O3, _, i + 1 + 1, m1, ch.c :: f, tk', l, _, kd', its', _, rfl, rfl, hM3, .inl R3, ?_, h13, lw', nd.2, fun z => n1 (by simp [z]), fun x hx => ?_, by simp only [List.length_cons] at li; omega, (st.trans (st2.stp g)).trans (st3.stp g)⟩
          · have hpos := R.F.pos hct
            rw [prel_ne (by decide) (fun z => nch1 z.symm), gpg_eq]
            exact .inl ⟨rfl, d'.kk, d'.ok, ft'⟩
          · rcases List.mem_cons.mp (pm.mem_iff.mp (ls x (by simp [hx]))) with z | z
            · exact absurd (by rw [← z]; exact hx) nd.1
            · exact z
theorem erase_take {α : Type} (l : List α) (n : Nat) : l.eraseIdx n = l.take n ++ l.drop (n + 1) := List.eraseIdx_eq_take_drop_succ l n
theorem WayM.leafE {M : MT} {k b n m : Int} {path : List (Int × Nat)} {es : List Itm} (h : WayM M k b n path m es) : M.pg m = some (1, es) ∧ es.length ≤ 21 := by
  induction h with
  | leaf e l => exact ⟨e, l⟩
  | node _ _ _ _ ih => exact ih
def sp_deleted17 (K : PySem.W.Frag) : Sp := fun vs H Q _ => ∃ (m b fl t : Addr) (O : Addr → Prop) (M : MT) (D i : Nat) (kk bb mm m0 : Int) (f tk l : List Int) (s s1 s' : PgS) (kd : Int) (path : List (Int × Nat)) (es its : List Itm), vs = [.ref m, .ref t] ∧ MtAt K H m b fl O M ∧ SqT K H t [.int kk, .int bb] ∧ R17 D i s mm f tk M ∧ WayM M kk bb 1 path m0 es ∧ path.length ≤ 900 ∧ (path.map (·.1) ++ [m0]).Nodup ∧ (∀ x ∈ path.map (·.1) ++ [m0], x ∈ tk) ∧ (path.map (·.1) ++ [m0]).head? = some 1 ∧ (∀ x ∈ es, ItOk D 1 x) ∧ Dl D path m0 1 (delI kk bb es) s s1 ∧ Dec D (gpg s1 1) kd its ∧ LwL D 1 l kd its s1 s' ∧ l.Nodup ∧ 1 ∉ l ∧ (∀ i1 m1 f1 t1, FR i1 s1 m1 f1 t1 → ∀ x ∈ l, x ∈ t1) ∧ (∀ its, Dec D (gpg s' 1) 2 its → its ≠ []) ∧ i + 2 * path.length + 2 * l.length + 8 ≤ 300000 ∧
  ∀ H' O' M' i' fl' m' f' tk', MtAt K H' m b fl' O' M' → R17 D i' s' m' f' tk' M' → i' ≤ i + 2 * path.length + 2 * l.length + 4 → Stp O O' H H' → Q .non H'
theorem ok__law_deleted (T : Txt K mg c) : GF P w K mg base CX0 3 "_law_deleted" (sp_deleted17 K) := by
  obtain ⟨f, fd, F, gm⟩ := T.f__law_deleted
  refine ⟨f, fd, ["_law_model", "_law_pair"], F.ok sc__law_deleted ?_ (fun cdv A outer s0 H vs Q E hr h => ?_), gm, F.kp, (F.binds (ps := ["_law_model", "_law_pair"]) fun _ _ _ _ _ _ us hl => match us, hl with | [_, _], _ => rfl)⟩
  · rintro vs H Q E ⟨_, _, _, _, _, _, _, _, _, _, _, _, _, _, _, _, _, _, _, _, _, _, rfl, _⟩
    rfl
  · obtain ⟨m, b, fl, t, O, M, D, i, kk, bb, mm, m0, f, tk, lq, s, s1, s', kd0, path, es, its0, rfl, hM, ht, R, way, lp, ndp, hpt, hhd, okE, dl, dec1, lwl, ndl, n1l, hlt, hroot, li0, k⟩ := h
    obtain ⟨kv, hm, hb, lk, at0⟩ := hM.dict
    have g := hM.own3
    obtain ⟨eM, lze⟩ := way.leafE
    refine ⟨_, (pss_cons (ps_set (i := 2) sc__law_deleted.nd rfl (Or.inl rfl) (pe_dget (hu_of hr) (pv 0) pe_str (fun _ _ => rfl)))
      (pss_cons (ps_asg (pe_g (ok__law_way T) (hr.mono (by decide)) pass0S (pa_cons (pv 0) (pa_cons (pv 1) pa_nil))) (pg_kT rfl (pg_tup (n := 2) rfl (pgs_cons (pg_name (i := 3) sc__law_deleted.nd rfl (Or.inl rfl)) (pgs_cons (pg_name (i := 4) sc__law_deleted.nd rfl (Or.inl rfl)) pgs_nil)))))
      (pss_cons (ps_setLc (i := 5) (own := [("_law_entry_here", 7)]) (g := (gName 7)) rfl sc__law_deleted.nd rfl rfl (sw_true rfl rfl rfl (by decide +kernel)) (pi_listK rfl (pe_ix (r := rIxT K) ix_tup (pe_dget (hu_of hr) (pv 2) (pv 4) (fun _ _ => rfl)) pe_int (fun _ _ => rfl))) (blkOk_by (N := ["_law_model", "_law_pair", "_law_pages", "_law_path", "_law_number", "_law_items", "_law_place", "_law_entry_here"]) (sc := defScope s__law_deleted) (by decide +kernel)) (fun _ _ _ _ _ => (pg_name (i := 7) sc__law_deleted.nd rfl (Or.inl rfl))) (fun _ _ _ _ _ => (pts_one (pt_cmpR (r := rNeD K) (op_neD hr.units) (pe_slice (r := rSlA K) sl_tupA (pv 7) po_none (po_some pe_int)) (pv 1) (nomark _)))) (fun _ _ _ _ _ => (pv 7)))
      (pss_cons (ps_dput (hu_of hr) (pv 2) (pv 4) (pe_tup (pa_cons pe_int (pa_cons (pv 5) pa_nil))) rfl)
      (pss_cons (ps_while PassesOwn.never (PW.pt (pw_and (pt_cmpR op_eq (pe_callB (r := rLenQ K) c_len (by rfl) T.z_len PySem.boot_len (pa_cons (pv 5) pa_nil)) pe_int (nomark _)) (pw_and1 (pt_cmpR op_gt (pe_callB (r := rLenQ K) c_len (by rfl) T.z_len PySem.boot_len (pa_cons (pv 3) pa_nil)) pe_int (nomark _))))) (pss_cons (ps_expr (pe_g (ok__law_released T) (hr.mono (by decide)) pass0S (pa_cons (pv 0) (pa_cons (pv 4) pa_nil))))
      (pss_cons (ps_asg (pe_kBM0 rfl (pe_bm0 PySem.F.plainAttrs_list PySem.F.slot_list_pop PySem.F.type_list_pop mt_pop (pv 3))) (pg_kT rfl (pg_tup (n := 2) rfl (pgs_cons (pg_name (i := 4) sc__law_deleted.nd rfl (Or.inl rfl)) (pgs_cons (pg_name (i := 6) sc__law_deleted.nd rfl (Or.inl rfl)) pgs_nil)))))
      (pss_cons (ps_set (i := 5) sc__law_deleted.nd rfl (Or.inl rfl) (pe_op op_cat (pe_slice (r := rSlL K) sl_list (pe_ix (r := rIxT K) ix_tup (pe_dget (hu_of hr) (pv 2) (pv 4) (fun _ _ => rfl)) pe_int (fun _ _ => rfl)) po_none (po_some (pv 6))) (pe_slice (r := rSlL K) sl_list (pe_ix (r := rIxT K) ix_tup (pe_dget (hu_of hr) (pv 2) (pv 4) (fun _ _ => rfl)) pe_int (fun _ _ => rfl)) (po_some (pe_op op_add (pv 6) pe_int)) po_none)))
      (pss_one (ps_dput (hu_of hr) (pv 2) (pv 4) (pe_tup (pa_cons pe_int (pa_cons (pv 5) pa_nil))) rfl))))))
      (pss_one (ps_expr (pe_g (ok__law_lowered T) (hr.mono (by decide)) pass0S (pa_cons (pv 0) pa_nil))))))))), ?_⟩
    walk_at "cx"
    walk_at "rd"
    refine ⟨m, b, fl, t, O, M, kk, bb, m0, path, es, rfl, hM, ht, way, by omega, fun H1 t1 pl pvs k1 e1 hpl epl hpv => ?_⟩
    have hM1 := hM.same k1
    have hb1 := k1.get hb id
    obtain ⟨v, ev, tt, lst, ws, rfl, htt, hl, hv, ol, nlf⟩ := at0 m0 _ eM
    have htt1 := k1.tup htt
    have hl1 := k1.get hl id
    have hv1 : ItWs K H1 ws es := hv.mono fun _ _ z => z.kp k1
    have lv : ws.length = es.length := hv.length
    walk_at "rd"
    refine x_dgI (.inl hb1) ev ?_
    walk_at "rd"
    refine wlcH (Wk.list (xs := ws)) F0 (fun D' i acc H' => ItWs K H' acc (delI kk bb (es.take i))) (fun b z => z.elim) (by omega) (fun D' i acc H' _ s => SqL.of (s.get hl1 id)) (fun _ _ => .nil) (fun D' i acc H' H4 k h => h.mono fun _ _ z => z.kp k) (fun D' i x acc H' R R0 ex hD' hacc pv kp hR hR0 => ?_) (fun z H3 acc hz hz3 pv k3 => ?_)
    · obtain ⟨y, ey, hy⟩ := pgt hv1 ex
      have tk : es.take (i + 1) = es.take i ++ [y] := by rw [List.take_succ, ey]; rfl
      obtain ⟨ty, rr, rfl, hty, lrr⟩ := (hy.kp kp).three
      have cutE : cutV (V.int y.a :: .int y.b :: .int y.c :: rr) none (some 2) = [.int y.a, .int y.b] := rfl
      walk_at "rd"
      refine ⟨rfl, ?_⟩
      walk_at "rd"
      refine x_slT hty fun t4 H4 k4 e4 => ?_
      rw [cutE] at e4
      walk_at "rd"
      refine x_neTI (ns := [y.a, y.b]) (ms := [kk, bb]) e4 (k4.sqT (kp.sqT (k1.sqT ht))) ?_
      have ed : delI kk bb (es.take (i + 1)) = delI kk bb (es.take i) ++ (if [y.a, y.b] = [kk, bb] then [] else [y]) := by
        unfold delI
        rw [tk, List.filter_append, List.filter_cons]
        by_cases q : [y.a, y.b] = [kk, bb]
        · rw [if_neg (by simp [q]), if_pos q]; rfl
        · rw [if_pos (by simp [q]), if_neg q]; rfl
      by_cases q : [y.a, y.b] = [kk, bb]
      · rw [decide_eq_true q]
        rw [if_pos q, List.append_nil] at ed
        walk_at "rd"
        exact hR0 H4 k4 (by rw [ed]; exact pv.mono fun _ _ z => z.kp k4)
      · rw [decide_eq_false q]
        rw [if_neg q] at ed
        walk_at "rd"
        exact hR _ H4 k4 (by rw [ed]; exact pr_app (pv.mono fun _ _ z => z.kp k4) (.cons ((hy.kp kp).kp k4) .nil))
    · rw [lv, List.take_length] at pv
      walk_at "rd"
      refine x_newT fun t4 H4 ht4 k4 e4 => ?_
      have k14 : Kp F0 H1 H4 := k3.trans k4 fun _ z => z.elim
      have hb4 := k14.get hb1 id
      have szM := R.sz
      walk_at "rd"
      refine x_dpI hb4 (by omega) fun H5 e5 k5 => ?_
      obtain ⟨hM5, st5⟩ := hM1.storeN k14 hz (k4.get hz3 id) e4 (pv.mono fun _ _ z => z.kp k4) hb1 k5 e5
      have st05 : Stp O (fun x => O x ∨ x = z) H H5 := (Stp.pure k1).trans (st5.stp g)
      have fz : H z = none := k1.free hz id
      have fpl : H pl = none := hpl
      have npz : pl ≠ z := ne_of_none epl hz
      have nOpl : ¬ O pl := hM.fresh fpl
      have epl5 : H5 pl = some (.lst pvs) := k5.get (k14.get epl id) (ne_of (k14.get epl id) hb4 (by intro z; cases z))
      have ez5 : H5 z = some (.lst acc) := k5.get (k4.get hz3 id) (ne_of (k4.get hz3 id) hb4 (by intro z; cases z))
      have hpv5 : Paired (PthV K H5) pvs path := (hpv.mono fun _ _ z => z.kp k14).mono fun _ _ z => z.kp k5
      have pv5 : ItWs K H5 acc (delI kk bb es) := (pv.mono fun _ _ z => z.kp k4).mono fun _ _ z => z.kp k5
      have nfz : z ≠ fl := by
        obtain ⟨⟨_, D0⟩, _⟩ := hM
        exact (ne_of_none D0.fr fz).symm
      walk_at "rd"
      refine x_wh (fun mz σ H' => ∃ path' n l ws its kd O' M0 fl' i' mm' f' tk' sc zz pvs' u6, mz = path'.length ∧ σ = [some (.ref m), some (.ref t), some (.ref b), some (.ref pl), some (.int n), some (.ref l), u6, none] ∧ MtAt K H' m b fl' O' { mput M0 n (kd, its) with sz := zz } ∧ zz ≤ 4 * i' + 1 ∧ R17 D i' sc mm' f' tk' M0 ∧ Dl D path' n kd its sc s1 ∧ (path'.map (·.1) ++ [n]).Nodup ∧ (∀ x ∈ path'.map (·.1) ++ [n], x ∈ tk') ∧ (path'.map (·.1) ++ [n]).head? = some 1 ∧ (∀ x ∈ its, ItOk D kd x) ∧ H' pl = some (.lst pvs') ∧ Paired (PthV K H') pvs' path' ∧ ¬ O' pl ∧ H' l = some (.lst ws) ∧ ItWs K H' ws its ∧ O' l ∧ l ≠ fl' ∧ i' + 2 * path'.length ≤ i + 2 * path.length ∧ Stp O O' H H') ?_ ?_
      · refine ⟨_, path, m0, z, acc, _, 1, _, M, fl, i, mm, f, tk, s, M.sz + 1, pvs, _, rfl, rfl, hM5, by omega, R, dl, ndp, hpt, hhd, fun x hx => okE x (List.mem_filter.mp hx).1, epl5, hpv5, ?_, ez5, pv5, .inr rfl, nfz, Nat.le_refl _, st05⟩
        rintro (q | q)
        · exact nOpl q
        · exact npz q
      · rintro mz σ H6 ⟨path', n, l, ws', its, kd, O', M0, fl', i', mm', f', tk', sc, zz, pvs', u6, rfl, rfl, hM6, hzz, R6, dl6, nd6, pt6, hd6, ok6, epl6, hpv6, np6, el6, hv6, ol6, nl6, li6, st6⟩
        have lp6 := hpv6.length
        have lw6 : ws'.length = its.length := hv6.length
        have g6 := hM6.own3
        walk_at "rd"
        rw [lw6]
        cases dl6 with
        | stop hst si lf =>
          refine if_both ?_ fun hb' rest => ?_
          · walk_at "rd"
            have nT : n ∈ tk' := pt6 n (by simp)
            have E : E17 D (i' + 1) (pwr n (pad (encB (if its = [] then 1 else kd) its)) sc) mm' f' tk' { mput M0 n (kd, its) with sz := zz } := by
              by_cases q : its = []
              · have ep := hst q
                subst ep
                subst q
                simp only [List.map_nil, List.nil_append, List.head?_cons, Option.some.injEq] at hd6
                subst hd6
                refine .inr ⟨mput M0 1 (1, []), kd, zz, ?_, mput_at, ?_, by omega⟩
                · rw [if_pos rfl]
                  exact R6.put nT (.inl rfl) (fun _ z => by simp at z) (by rw [if_pos rfl] at lf; exact lf)
                · rw [mput2]
              · rw [if_neg q] at lf ⊢
                exact .inl ((R6.put nT si.kk ok6 lf).szu (by omega))
            have hlt' : ∀ x ∈ lq, x ∈ tk' := by
              rcases E with RE | ⟨_, _, _, RE, _⟩
              · exact hlt _ _ _ _ RE.F
              · exact hlt _ _ _ _ RE.F
            have one : (1 : Int) ∈ tk' := by
              refine pt6 1 ?_
              cases hh : path'.map (·.1) ++ [n] with
              | nil => simp at hh
              | cons y r =>
                rw [hh] at hd6
                simp only [List.head?_cons, Option.some.injEq] at hd6
                rw [hd6]; simp
            refine ⟨m, b, fl', O', _, D, i' + 1, mm', f', tk', lq, _, s', kd0, its0, rfl, hM6, E, dec1, one, lwl, ndl, n1l, hlt', hroot, by omega, fun H7 O7 M7' i7 fl7 m7 f7 tk7 hM7 R7 li7 st7 => ?_⟩
            walk_at "rd"
            exact k H7 O7 M7' i7 fl7 m7 f7 tk7 hM7 R7 (by omega) (st6.trans st7)
          · have e' : its = [] := List.eq_nil_of_length_eq_zero (by have := of_decide_eq_true hb'; omega)
            have ep := hst e'
            rw [ep] at lp6
            walk_at "rd"
            rw [decide_eq_false (by rw [lp6]; decide)]
            first | exact rest | exact x_ifFF rest
        | climb si dc pcl dl7 =>
          rename_i path5 pc par cs
          obtain ⟨pv5', xv, epv, hpv5', t9, ext, ht9⟩ := pr_snoc hpv6
          rw [ext] at epv
          rw [epv] at epl6
          rw [decide_eq_true (by rfl)]
          walk_at "rd"
          rw [decide_eq_true (by rw [List.length_append, List.length_singleton]; omega)]
          walk_at "rd"
          refine ⟨_, fun σ' H' z => ⟨path5.length, by rw [List.length_append, List.length_singleton]; omega, z⟩, ?_⟩
          have nT : n ∈ tk' := pt6 n (by simp)
          obtain ⟨tk5, pm⟩ := perm_out nT
          have li6' := li6
          rw [List.length_append, List.length_singleton] at li6'
          have R7 := (R6.perm pm).rel (by omega)
          have eMx : (({ mput M0 n (kd, ([] : List Itm)) with sz := zz } : MT)).pg n = some (kd, []) := if_pos rfl
          have lfr : (({ mput M0 n (kd, ([] : List Itm)) with sz := zz } : MT)).free.length ≤ 1000000 := by
            have l := R6.F.len
            have mb := R6.F.mb
            rw [List.length_append] at l
            show M0.free.length ≤ _
            rw [R6.free]
            omega
          walk_at "rd"
          refine ⟨m, b, fl', O', _, n, _, rfl, hM6, eMx, lfr, fun H7 O7 fl7 fr7 hM7 st7 => ?_⟩
          obtain ⟨epl7, np7⟩ := st7.kpn g6 epl6 np6
          have ht97 := st7.kp.sqT ht9
          have eM7 : mrel { mput M0 n (kd, ([] : List Itm)) with sz := zz } n = { mrel M0 n with sz := zz } := by
            have := mrel_put (M := M0) (n := n) (q := (kd, []))
            unfold mrel mput at this ⊢
            simp only [MT.mk.injEq] at this ⊢
            exact ⟨this.1, trivial, trivial, trivial⟩
          rw [eM7] at hM7
          have R7' := R7.szu (z := zz) (by omega)
          walk_at "rd"
          refine ⟨pl, pv5' ++ [.ref t9], .ref t9, rfl, rfl, epl7, by simp, ?_⟩
          rw [List.dropLast_concat]
          have k8 : Kp (F1 pl) H7 (upd H7 pl (.lst pv5')) := Kp.put epl7 id
          have e8 : (upd H7 pl (.lst pv5') : Hp) pl = some (.lst pv5') := upd_same
          generalize upd H7 pl (.lst pv5') = H8 at k8 e8 ⊢
          have hM8 := hM7.off k8 fun x z => by rw [z]; exact np7
          have ht98 := k8.sqT ht97
          have nd6' := nd6
          have pt6' := pt6
          rw [List.map_append, List.map_cons, List.map_nil, List.append_assoc] at nd6' pt6'
          have npar : par ≠ n := fun z => by
            have := (List.nodup_append.mp nd6').2.1
            rw [z] at this
            simp at this
          have inT5 : ∀ x ∈ path5.map (·.1) ++ [par], x ∈ tk5 := fun x hx => by
            have hx' : x ∈ path5.map (·.1) ++ ([par] ++ [n]) := by
              rw [← List.append_assoc]
              exact List.mem_append.mpr (.inl hx)
            rcases List.mem_cons.mp (pm.mem_iff.mp (pt6' x hx')) with z | z
            · exfalso
              rw [← List.append_assoc] at nd6'
              exact (List.nodup_append.mp nd6').2.2 x hx n (by simp) z
            · exact z
          have parT := inT5 par (by simp)
          have eP := R7'.at parT dc
          obtain ⟨kv8, hm8, hb8, lk8, at8⟩ := hM8.dict
          obtain ⟨vp, evp, tp, lpp, wsp, rfl, htp, hlp, hvp, olp, nlp⟩ := at8 par _ eP
          have lwp : wsp.length = cs.length := hvp.length
          have lcs := dc.lz
          walk_at "rd"
          refine x_dgI (.inl hb8) evp ?_
          walk_at "rd"
          refine x_slL (SqL.of hlp) fun l9 H9 hl9 k9 e9 => ?_
          rw [cutW_to (by omega)] at e9
          have hb9 := k9.get hb8 id
          have htp9 := k9.tup htp
          have hlp9 := k9.get hlp id
          walk_at "rd"
          refine x_dgI (.inl hb9) evp ?_
          walk_at "rd"
          refine x_slL (SqL.of hlp9) fun l10 H10 hl10 k10 e10 => ?_
          rw [show ((pc : Int) + 1) = ((pc + 1 : Nat) : Int) by omega, cutW_from (by omega)] at e10
          walk_at "rd"
          refine x_catL (k10.get e9 id) e10 (by rw [List.length_take, List.length_drop, sizeLine_eq]; omega) fun l11 H11 hl11 k11 e11 => ?_
          walk_at "rd"
          refine x_newT fun t12 H12 ht12 k12 e12 => ?_
          have k812 : Kp F0 H8 H12 := ((k9.trans k10 fun _ z => z.elim).trans k11 fun _ z => z.elim).trans k12 fun _ z => z.elim
          have fl11 : H8 l11 = none := (k9.trans k10 fun _ z => z.elim).free hl11 id
          have hb12 := k812.get hb8 id
          have hv12 : ItWs K H12 (wsp.take pc ++ wsp.drop (pc + 1)) (cs.eraseIdx pc) := by
            rw [erase_take]
            exact pr_app (pr_take _ (hvp.mono fun _ _ z => z.kp k812)) (pr_drop _ (hvp.mono fun _ _ z => z.kp k812))
          walk_at "rd"
          refine x_dpI hb12 (by have : kv8.length ≤ zz := lk8; omega) fun H13 e13 k13 => ?_
          obtain ⟨hM13, st13⟩ := hM8.storeN k812 fl11 (k12.get e11 id) e12 hv12 hb8 k13 e13
          have g8 := hM8.own3
          have st13' : Stp O (fun x => O7 x ∨ x = l11) H H13 := ((st6.trans (st7.stp g6)).off1 k8 fpl).trans (st13.stp g8)
          have fl7n : l11 ≠ fl7 := by
            obtain ⟨⟨_, D8⟩, _⟩ := hM8
            exact (ne_of_none D8.fr fl11).symm
          have nb13 : ∀ {x o}, H12 x = some o → (∀ y, o ≠ .dK y) → H13 x = some o := fun hx no => k13.get hx fun z => by
            rw [z, hb12] at hx
            cases hx
            exact no _ rfl
          refine ⟨path5, par, l11, _, cs.eraseIdx pc, 2, _, { mrel M0 n with sz := zz }, fl7, i' + 1, mm', n :: f', tk5, _, zz + 1, pv5', _, rfl, rfl, hM13, by omega, R7', dl7, (List.nodup_append.mp (by rw [← List.append_assoc] at nd6'; exact nd6')).1, inT5, ?_, fun x hx => dc.ok x (List.mem_of_mem_eraseIdx hx), nb13 (k812.get e8 id) (fun y z => by cases z), (((hpv5'.mono fun _ _ z => z.kp st7.kp).mono fun _ _ z => z.kp k8).mono fun _ _ z => z.kp k812).mono fun _ _ z => z.kp k13, ?_, nb13 (k12.get e11 id) (fun y z => by cases z), hv12.mono fun _ _ z => z.kp k13, .inr rfl, fl7n, by omega, st13'⟩
          · rw [List.map_append, List.map_cons, List.map_nil] at hd6
            cases hh : path5.map (·.1) with
            | nil => rw [hh] at hd6; exact hd6
            | cons y r => rw [hh] at hd6; exact hd6
          · rintro (q | q)
            · exact np7 q
            · rw [q, fl11] at e8; cases e8
end
/-! ### the law's pages byte by byte -/
theorem inV_i (n : Int) (ks : List Int) : inV (.int n) (ks.map V.int) = decide (n ∈ ks) := by
  unfold inV
  rw [List.any_map]
  induction ks with
  | nil => rfl
  | cons k ks ih =>
    rw [List.any_cons, ih, Bool.eq_iff_iff, Bool.or_eq_true, decide_eq_true_eq, decide_eq_true_eq, List.mem_cons]
    refine or_congr_left ?_
    show decide (k = n) = true ↔ n = k
    rw [decide_eq_true_eq]
    exact eq_comm
theorem flat_ints (ks : List Int) : (ks.map V.int).all flatV = true := by
  rw [List.all_map]
  exact List.all_eq_true.mpr fun _ _ => rfl
theorem Chain.next {f : Int → Int} : ∀ {a b : List Int} {n h : Int}, Chain f h (a ++ n :: b) → f n = (b ++ [0]).headD 0
  | [], b, n, h, c => c.2.head
  | x :: a, b, n, h, c => Chain.next (a := a) c.2
theorem idx_of {a b : List Int} {n : Int} (h : n ∉ a) : ∀ m z', m < a.length → ((a ++ n :: b).map V.int)[m]? = some z' → eqV z' (.int n) = false := fun m z' hm e => by
  rw [List.getElem?_map, List.getElem?_append_left hm] at e
  cases q : a[m]? with
  | none => rw [q] at e; cases e
  | some y =>
    rw [q] at e
    cases e
    have hy := List.mem_of_getElem? q
    show decide (y = n) = false
    exact decide_eq_false fun z => h (by rw [← z]; exact hy)
section
variable {P : Program} {w : World} {K : PySem.W.Frag} {mg : Str → Option Value} {base : Heap} {c : Cl}
def sp_page17 (K : PySem.W.Frag) : Sp := fun vs H Q _ => ∃ (m b fl : Addr) (O : Addr → Prop) (M : MT) (D i : Nat) (s : PgS) (m0 n : Int) (f tk : List Int), vs = [.ref m, .int n] ∧ MtAt K H m b fl O M ∧ R17 D i s m0 f tk M ∧ i ≤ 400000 ∧ D ≤ 8 ∧ n ∈ f ++ tk ∧ (n ∈ tk → ∃ kd its, StrI D (gpg s n) kd its) ∧
  ∀ H' p, H p = none → Kp F0 H H' → H' p = some (.lst ((gpg s n).map V.int)) → Q (.ref p) H'
theorem ok__law_page (T : Txt K mg c) : GF P w K mg base CX0 4 "_law_page" (sp_page17 K) := by
  obtain ⟨f, fd, F, gm⟩ := T.f__law_page
  refine ⟨f, fd, ["_law_model", "_law_number"], F.ok sc__law_page ?_ (fun cdv A outer s0 H vs Q E hr h => ?_), gm, F.kp, (F.binds (ps := ["_law_model", "_law_number"]) fun _ _ _ _ _ _ us hl => match us, hl with | [_, _], _ => rfl)⟩
  · rintro vs H Q E ⟨_, _, _, _, _, _, _, _, _, _, _, _, rfl, _⟩
    rfl
  · obtain ⟨m, b, fl, O, M, D, i, s, m0, n, f, tk, rfl, hM, R, hi, hD, hn, hstr, k⟩ := h
    obtain ⟨kv, hm, hb, lk, at0⟩ := hM.dict
    have hfl : H fl = some (.lst (f.map V.int)) := by
      obtain ⟨⟨_, D0⟩, _⟩ := hM
      rw [← R.free]; exact D0.fr
    have lfl := R.F.len
    have mb := R.F.mb
    rw [List.length_append] at lfl
    refine ⟨_, (pss_cons (ps_set (i := 2) sc__law_page.nd rfl (Or.inl rfl) (pe_lst pa_nil))
      (C8.pss_cut (ps_if (pt_cmpR (r := rIn K false) op_in_seq (pv 1) (pe_dget (hu_of hr) (pv 0) pe_str (fun _ _ => rfl)) rfl) (pss_cons (ps_set (i := 3) sc__law_page.nd rfl (Or.inl rfl) (pe_op op_cat (pe_slice (r := rSlL K) sl_list (pe_dget (hu_of hr) (pv 0) pe_str (fun _ _ => rfl)) (po_some (pe_op op_add (pe_kBM rfl (pe_bm PySem.F.plainAttrs_list PySem.F.slot_list_index PySem.F.type_list_index mt_index (pe_dget (hu_of hr) (pv 0) pe_str (fun _ _ => rfl)) (pa_cons (pv 1) pa_nil))) pe_int)) po_none) (pe_lst (pa_cons pe_int pa_nil))))
      (pss_one (ps_set (i := 2) sc__law_page.nd rfl (Or.inl rfl) (pe_g (ok__law_bytes T) (hr.mono (by decide)) pass0S (pa_cons (pe_ix (r := rIxL K) ix_list (pv 3) pe_int (fun _ _ => rfl)) (pa_cons pe_int pa_nil)))))) (pss_cons (ps_set (i := 4) sc__law_page.nd rfl (Or.inl rfl) (pe_dget (hu_of hr) (pe_dget (hu_of hr) (pv 0) pe_str (fun _ _ => rfl)) (pv 1) (fun _ _ => rfl)))
      (pss_cons (ps_set (i := 2) sc__law_page.nd rfl (Or.inl rfl) (pe_lst (pa_cons (pe_ix (r := rIxT K) ix_tup (pv 4) pe_int (fun _ _ => rfl)) (pa_cons (pe_callB (r := rLenQ K) c_len (by rfl) T.z_len PySem.boot_len (pa_cons (pe_ix (r := rIxT K) ix_tup (pv 4) pe_int (fun _ _ => rfl)) pa_nil)) pa_nil))))
      (pss_one (ps_for PassesOwn.never rfl (pi_listK rfl (pe_g (ok__law_parts T) (hr.mono (by decide)) pass0S (pa_cons (pv 4) pa_nil))) (pg_name (i := 5) sc__law_page.nd rfl (Or.inl rfl)) (pss_one (ps_set (i := 2) sc__law_page.nd rfl (Or.inl rfl) (pe_op op_cat (pv 2) (pv 5)))))))))
      (pss_one (ps_ret (pe_op op_cat (pv 2) (pe_op op_rep (pe_lst (pa_cons pe_int pa_nil)) (pe_op op_sub pe_int (pe_callB (r := rLenQ K) c_len (by rfl) T.z_len PySem.boot_len (pa_cons (pv 2) pa_nil))))))))), ?_⟩
    walk_at "cx"
    walk_at "rd"
    refine x_newL fun d1 H1 hd1 k1 e1 => ?_
    have hm1 := k1.get hm id
    have hfl1 := k1.get hfl id
    walk_at "rd"
    have fin : ∀ {d : Addr} {ds : List Int} {H2 : Hp} {R2 : V → Hp → Prop}, Kp F0 H H2 → H2 d = some (.lst (ds.map V.int)) → ds.length ≤ 256 → gpg s n = ds ++ List.replicate (256 - ds.length) 0 → (∀ p H', H2 p = none → Kp F0 H2 H' → H' p = some (.lst ((gpg s n).map V.int)) → R2 (.ref p) H') →
        ∀ {z1 : Addr} {H3 : Hp}, Kp F0 H2 H3 → H3 z1 = some (.lst [.int 0]) → rRep (.ref z1) (.int (256 - (ds.length : Int))) H3 (fun y H4 => rCat (.ref d) y H4 R2) := fun {d ds H2 R2} k2 hd ld eg kk {z1 H3} k3 e3 => by
      refine x_rep e3 (by omega) (by omega) fun z2 H4 hz2 k4 e4 => ?_
      refine x_catL (k4.get (k3.get hd id) id) e4 (by rw [List.length_map, List.length_replicate, sizeLine_eq]; omega) fun p H5 hp k5 e5 => ?_
      have k24 : Kp F0 H2 H4 := k3.trans k4 fun _ z => z.elim
      refine kk p H5 (k24.free hp id) (k24.trans k5 fun _ z => z.elim) ?_
      rw [e5, eg, List.map_append, List.map_replicate, show ((256 : Int) - (ds.length : Int)).toNat = 256 - ds.length by omega]
    refine x_cut (fun σ' H' => ∃ d ds u3 u4 u5, σ' = [some (.ref m), some (.int n), some (.ref d), u3, u4, u5] ∧ Kp F0 H H' ∧ H' d = some (.lst (ds.map V.int)) ∧ ds.length ≤ 256 ∧ gpg s n = ds ++ List.replicate (256 - ds.length) 0) ?_ ?_
    · walk_at "rd"
      refine ⟨fl, _, rfl, .inl (SqL.of hfl1), rfl, flat_ints _, ?_⟩
      rw [if_neg Bool.false_ne_true, inV_i]
      walk_at "rd"
      refine ite_dec (fun e => ?_) fun e => ?_
      · obtain ⟨a, b', rfl⟩ := List.append_of_mem e
        have nda := (List.nodup_append.mp (List.nodup_append.mp R.F.nd).1).2.2
        have na : n ∉ a := fun z => nda n z n (by simp) rfl
        obtain ⟨x, ex, x0, x1⟩ := R.fc n e
        have nx := Chain.next R.F.chain
        have ex2 : x = (b' ++ [0]).headD 0 := by
          rw [← nx]
          show x = rn ((gpg s n).take 4)
          rw [ex, List.take_left' (wn_len 4 _), rn_wn 4 _ x0 x1]
        walk_at "rd"
        refine ⟨fl, _, .int n, a.length, .int n, rfl, rfl, SqL.of hfl1, rfl, flat_ints _, by simp, ?_, idx_of na, ?_⟩
        · show decide (n = n) = true; exact decide_eq_true rfl
        · walk_at "rd"
          refine x_slL (SqL.of hfl1) fun l2 H2 hl2 k2 e2 => ?_
          rw [show ((a.length : Int) + 1) = ((a.length + 1 : Nat) : Int) by omega, cutW_from (by simp), ← List.map_drop, show (a ++ n :: b').drop (a.length + 1) = b' by rw [← List.drop_drop, List.drop_left]; rfl] at e2
          walk_at "rd"
          refine x_newL fun l3 H3 hl3 k3 e3 => ?_
          walk_at "rd"
          refine x_catL (k3.get e2 id) e3 (by rw [List.length_map, List.length_singleton, sizeLine_eq]; simp only [List.length_append, List.length_cons] at lfl; omega) fun l4 H4 hl4 k4 e4 => ?_
          have e4' : H4 l4 = some (.lst ((b' ++ [0]).map V.int)) := by rw [e4, List.map_append]; rfl
          have hd0 : ((b' ++ [0]).map V.int)[0]? = some (.int ((b' ++ [0]).headD 0)) := by
            cases b' with
            | nil => rfl
            | cons y r => rfl
          walk_at "rd"
          refine x_ixL (v := .int ((b' ++ [0]).headD 0)) (SqL.of e4') (atI_at 0 rfl hd0) ?_
          walk_at "rd"
          refine ⟨4, _, rfl, by decide, fun p5 H5 hp5 k5 e5 => ?_⟩
          walk_at "rd"
          refine ⟨p5, wn 4 ((b' ++ [0]).headD 0), _, _, _, rfl, (((k1.trans k2 fun _ z => z.elim).trans k3 fun _ z => z.elim).trans k4 fun _ z => z.elim).trans k5 fun _ z => z.elim, e5, by rw [wn_len]; decide, ?_⟩
          rw [wn_len, ex, ex2]
      · have ht : n ∈ tk := by
          rcases List.mem_append.mp hn with z | z
          · exact absurd z e
          · exact z
        obtain ⟨kd, its, S⟩ := hstr ht
        have eM := R.at ht S.dec
        obtain ⟨v, ev, t, lst, ws, rfl, ht', hl, hv, ol, nlf⟩ := at0 n _ eM
        have lv : ws.length = its.length := hv.length
        have hb1 := k1.get hb id
        have ht1 := k1.tup ht'
        have hl1 := k1.get hl id
        have lz := S.dec.lz
        walk_at "rd"
        refine x_dgI (.inl hb1) ev ?_
        walk_at "rd"
        rw [lv]
        refine x_newL fun d2 H2 hd2 k2 e2 => ?_
        have ht2 := k2.tup ht1
        walk_at "rd"
        refine ⟨t, lst, ws, kd, its, rfl, SqT.of ht2, k2.get hl1 id, (hv.mono fun _ _ z => z.kp k1).mono fun _ _ z => z.kp k2, fun it h => (S.2.2.1 it h).kd (by omega), S.2.1, by omega, fun pr us H3 hpr k3 e3 hpt => ?_⟩
        have lu := hpt.length
        walk_at "rd"
        refine wfor (Wk.list (xs := us)) (fun j σ H' => ∃ d u5, σ = [some (.ref m), some (.int n), some (.ref d), none, some (.ref t), u5] ∧ H' d = some (.lst ((kd :: (its.length : Int) :: (its.take j).flatMap encI).map V.int)) ∧ Kp F0 H3 H')
          ⟨d2, none, rfl, k3.get e2 id, Kp.refl _⟩ (fun j σ H' ⟨_, _, _, _, kk⟩ => SqL.of (kk.get e3 id)) ?_ ?_
        · rintro j x σ H4 ex ⟨d, u5, rfl, e4, k4⟩
          obtain ⟨it, ei, li, rfl, hli, _⟩ := pgt hpt ex
          have hli4 := k4.get hli id
          have lt := fm_le (f := encI) (g := its.take j) (n := 3013) fun q hq => ((S.2.2.1 q (List.mem_of_mem_take hq)).kd (by omega)).len
          have l1 := ((S.2.2.1 it (List.mem_of_getElem? ei)).kd (by omega)).len
          rw [List.length_take] at lt
          walk_at "rd"
          refine x_catL e4 hli4 (by rw [List.length_map, List.length_map, List.length_cons, List.length_cons, sizeLine_eq]; omega) fun d5 H5 hd5 k5 e5 => ?_
          refine ⟨d5, _, rfl, ?_, k4.trans k5 fun _ z => z.elim⟩
          rw [e5, takes ei, ← List.map_append]
          rfl
        · rintro σ H4 ⟨d, u5, rfl, e4, k4⟩
          rw [lu, List.take_length] at e4
          refine ⟨d, encB kd its, _, _, _, rfl, ((k1.trans k2 fun _ z => z.elim).trans k3 fun _ z => z.elim).trans k4 fun _ z => z.elim, e4, S.2.2.2, S.1⟩
    · rintro σ' H2 ⟨d, ds, u3, u4, u5, rfl, k2, hd, ld, eg⟩
      walk_at "rd"
      refine x_newL fun z1 H3 hz1 k3 e3 => ?_
      have hd3 := k3.get hd id
      walk_at "rd"
      rw [List.length_map]
      exact fin k2 hd ld eg (fun p H' hp kk ep => k H' p (k2.free hp id) (k2.trans kk fun _ z => z.elim) ep) k3 e3
def sp_same17 (c : Cl) (K : PySem.W.Frag) : Sp := fun vs H Q _ => ∃ (p q m b fl : Addr) (O Od O2 : Addr → Prop) (M : MT) (D i : Nat) (s : PgS) (m0 : Int) (f tk : List Int) (wh : Bool), vs = [.ref p, .ref m, .bl wh] ∧ PagAt c H p q O Od s ∧ MtAt K H m b fl O2 M ∧ R17 D i s m0 f tk M ∧ i ≤ 400000 ∧ D ≤ 8 ∧ (∀ n ∈ tk, ∃ kd its, StrI D (gpg s n) kd its) ∧
  ∀ H', Kp F0 H H' → Q (.bl true) H'
theorem ok__law_same (T : Txt K mg c) : GF P w K mg base CX0 5 "_law_same" (sp_same17 c K) := by
  obtain ⟨f, fd, F, gm⟩ := T.f__law_same
  have tc_Pager := T.cl_Pager; have tn_Pager_device := T.n_Pager_device; have tn_Pager_committed := T.n_Pager_committed; have tn_Pager_dirty := T.n_Pager_dirty
  refine ⟨f, fd, ["_law_pager", "_law_model", "_law_whole"], F.ok sc__law_same ?_ (fun cdv A outer s0 H vs Q E hr h => ?_), gm, F.kp, (F.binds (ps := ["_law_pager", "_law_model", "_law_whole"]) fun _ _ _ _ _ _ us hl => match us, hl with | [_, _, _], _ => rfl)⟩
  · rintro vs H Q E ⟨_, _, _, _, _, _, _, _, _, _, _, _, _, _, _, _, rfl, _⟩
    rfl
  · obtain ⟨p, q, m, b, fl, O, Od, O2, M, D, i, s, m0, f, tk, wh, rfl, hP, hM, R, hi, hD, hstr, k⟩ := h
    obtain ⟨⟨dy, a1, a2, y1, y2, DP⟩, _⟩ := id hP
    have hop := DP.o
    obtain ⟨kv, hm, hb, lk, at0⟩ := hM.dict
    have hfl : H fl = some (.lst (f.map V.int)) := by
      obtain ⟨⟨_, D0⟩, _⟩ := hM
      rw [← R.free]; exact D0.fr
    have lfl := R.F.len
    have mb := R.F.mb
    have m1 := R.F.m1
    have emany := R.many
    have vm := R.F.many
    have hd0 : ((f ++ [0]).map V.int)[0]? = some (.int ((f ++ [0]).headD 0)) := by
      cases f with
      | nil => rfl
      | cons y r => rfl
    rw [List.length_append] at lfl
    refine ⟨_, (pss_cons (ps_if (PW.pt (pw_or (pt_cmpR op_ne (pe_gm T.cl_Pager (ok_Pager_field T) (pv 0) (hr.mono (by decide)) pass0S (pa_cons pe_int pa_nil)) (pe_dget (hu_of hr) (pv 1) pe_str (fun _ _ => rfl)) (nomark _)) (pw_or1 (pt_cmpR op_ne (pe_gm T.cl_Pager (ok_Pager_field T) (pv 0) (hr.mono (by decide)) pass0S (pa_cons pe_int pa_nil)) (pe_ix (r := rIxL K) ix_list (pe_op op_cat (pe_dget (hu_of hr) (pv 1) pe_str (fun _ _ => rfl)) (pe_lst (pa_cons pe_int pa_nil))) pe_int (fun _ _ => rfl)) (nomark _))))) (pss_one (ps_ret pe_bl)) pss_nil)
      (C8.pss_cut (ps_if (pt_val (pv 2)) (pss_one (ps_for PassesOwn.never rfl (pi_range2 (by rfl) T.z_range (pa_cons pe_int (pa_cons (pe_dget (hu_of hr) (pv 1) pe_str (fun _ _ => rfl)) pa_nil))) (pg_name (i := 3) sc__law_same.nd rfl (Or.inl rfl)) (pss_one (ps_if (pt_cmpR (r := rNeD K) (op_neD hr.units) (pe_gm T.cl_Pager (ok_Pager_read T) (pv 0) (hr.mono (by decide)) pass0S (pa_cons (pv 3) pa_nil)) (pe_g (ok__law_page T) (hr.mono (by decide)) pass0S (pa_cons (pv 1) (pa_cons (pv 3) pa_nil))) (nomark _)) (pss_one (ps_ret pe_bl)) pss_nil)))) pss_nil)
      (pss_one (ps_ret pe_bl)))), ?_⟩
    walk_at "cx"
    walk_at "rd"
    refine ⟨p, q, O, Od, s, 6, rfl, by decide, hP, fun H1 k1 => ?_⟩
    have hm1 := k1.get hm id
    walk_at "rd"
    rw [fld_vf, vm, emany, decide_eq_true rfl]
    have hop1 := k1.get hop id
    walk_at "rd"
    refine ⟨p, q, O, Od, s, 7, rfl, by decide, hP.same k1, fun H2 k2 => ?_⟩
    have hm2 := k2.get hm1 id
    have hfl2 := k2.get (k1.get hfl id) id
    walk_at "rd"
    refine x_newL fun l3 H3 hl3 k3 e3 => ?_
    walk_at "rd"
    refine x_catL (k3.get hfl2 id) e3 (by rw [List.length_map, List.length_singleton, sizeLine_eq]; omega) fun l4 H4 hl4 k4 e4 => ?_
    have e4' : H4 l4 = some (.lst ((f ++ [0]).map V.int)) := by rw [e4, List.map_append]; rfl
    walk_at "rd"
    refine x_ixL (v := .int ((f ++ [0]).headD 0)) (SqL.of e4') (atI_at 0 rfl hd0) ?_
    walk_at "rd"
    rw [fld_vf, R.F.chain.head, decide_eq_true rfl]
    have k04 : Kp F0 H H4 := ((k1.trans k2 fun _ z => z.elim).trans k3 fun _ z => z.elim).trans k4 fun _ z => z.elim
    have hm4 := k04.get hm id
    walk_at "rd"
    refine x_cut (fun σ' H' => Kp F0 H H') ?_ ?_
    · walk_at "rd"
      cases wh with
      | false =>
        walk_at "rd"
        exact k04
      | true =>
        walk_at "rd"
        refine wfor Wk.rng (fun j σ H' => ∃ u3, σ = [some (.ref p), some (.ref m), some (.bl true), u3] ∧ Kp F0 H H') ⟨none, rfl, k04⟩ (fun _ _ _ _ => trivial) ?_ ?_
        · rintro j x σ H5 ex ⟨u3, rfl, k5⟩
          obtain ⟨hj, rfl⟩ := rgl_at ex
          have hop5 := k5.get hop id
          have hj1 : 1 + (j : Int) < m0 := by rw [emany] at hj; omega
          walk_at "rd"
          refine ⟨p, q, O, Od, s, 1 + (j : Int), rfl, hP.same k5, fun b6 H6 hb6 k6 e6 => ?_⟩
          walk_at "rd"
          refine ⟨m, b, fl, O2, M, D, i, s, m0, 1 + (j : Int), f, tk, rfl, hM.same (k5.trans k6 fun _ z => z.elim), R, hi, hD, R.F.fu _ (by omega) hj1, fun z => hstr _ z, fun H7 p7 hp7 k7 e7 => ?_⟩
          walk_at "rd"
          refine x_neLI (SqL.of (k7.get e6 id)) (SqL.of e7) ?_
          rw [decide_eq_true rfl]
          walk_at "rd"
          exact ⟨_, rfl, (k5.trans k6 fun _ z => z.elim).trans k7 fun _ z => z.elim⟩
        · rintro σ H5 ⟨u3, rfl, k5⟩
          exact k5
    · intro σ' H5 k5
      walk_at "rd"
      exact k H5 k5
/-! ### a new entry -/
def sp_new17 (K : PySem.W.Frag) : Sp := fun vs H Q _ => ∃ (st sc ml : Addr) (D : Nat) (sp : Int) (mvs : List V) (ms : List Itm), vs = [.ref st, .ref sc, .ref ml, .int (D : Nat), .int sp] ∧ 0 ≤ sp ∧ sp ≤ 32767 ∧ D ≤ 8 ∧ Dr K H st sc ∧ H ml = some (.lst mvs) ∧ st ≠ ml ∧ Paired (MdV K H) mvs ms ∧ (∀ x ∈ ms, Rb x.b) ∧
  (∀ H', Dr K H' st sc → Kp (F1 st) H H' → Q .non H') ∧ ∀ H' t it, Dr K H' st sc → Kp (F1 st) H H' → MdV K H' (.ref t) it → ItOk D 1 it → SmI it → (∀ x ∈ ms, ky x ≠ ky it) → Q (.ref t) H'
theorem ok__law_new (T : Txt K mg c) : GF P w K mg base CX0 3 "_law_new" (sp_new17 K) := by
  obtain ⟨f, fd, F, gm⟩ := T.f__law_new
  refine ⟨f, fd, ["_law_state", "_law_script", "_law_rows", "_law_many", "_law_span"], F.ok sc__law_new ?_ (fun cdv A outer s0 H vs Q E hr h => ?_), gm, F.kp, (F.binds (ps := ["_law_state", "_law_script", "_law_rows", "_law_many", "_law_span"]) fun _ _ _ _ _ _ us hl => match us, hl with | [_, _, _, _, _], _ => rfl)⟩
  · rintro vs H Q E ⟨_, _, _, _, _, _, _, rfl, _⟩
    rfl
  · obtain ⟨st, sc, ml, D, sp, mvs, ms, rfl, sp0, sp1, hD, dr, hml, nsm, pm, rb, kN, kS⟩ := h
    have lm := pm.length
    refine ⟨_, (pss_cons (ps_set (i := 5) sc__law_new.nd rfl (Or.inl rfl) (pe_ix (r := rIxL K) ix_list (pe_lst (pa_cons (pe_g (ok__law_draw T) (hr.mono (by decide)) pass0S (pa_cons (pv 0) (pa_cons (pv 1) (pa_cons pe_int pa_nil)))) (pa_cons (pe_g (ok__law_draw T) (hr.mono (by decide)) pass0S (pa_cons (pv 0) (pa_cons (pv 1) (pa_cons pe_int pa_nil)))) (pa_cons pe_int pa_nil)))) (pe_g (ok__law_draw T) (hr.mono (by decide)) pass0S (pa_cons (pv 0) (pa_cons (pv 1) (pa_cons pe_int pa_nil)))) (fun _ _ => rfl)))
      (pss_cons (ps_set (i := 6) sc__law_new.nd rfl (Or.inl rfl) (pe_g (ok__law_draw T) (hr.mono (by decide)) pass0S (pa_cons (pv 0) (pa_cons (pv 1) (pa_cons pe_int pa_nil)))))
      (pss_cons (ps_for PassesOwn.never rfl (pi_listK rfl (pv 2)) (pg_name (i := 7) sc__law_new.nd rfl (Or.inl rfl)) (pss_one (ps_if (pt_cmpR (r := rEqD K) (op_eqD hr.units) (pe_slice (r := rSlA K) sl_tupA (pv 7) po_none (po_some pe_int)) (pe_tup (pa_cons (pv 5) (pa_cons (pv 6) pa_nil))) (nomark _)) (pss_one (ps_ret pe_non)) pss_nil)))
      (pss_one (ps_ret (pe_tup (pa_cons (pv 5) (pa_cons (pv 6) (pa_cons pe_int (pa_cons (pe_g (ok__law_point T) (hr.mono (by decide)) pass0S (pa_cons (pv 0) (pa_cons (pv 1) (pa_cons (pv 3) (pa_cons (pv 4) pa_nil))))) (pa_cons (pe_g (ok__law_payload T) (hr.mono (by decide)) pass0S (pa_cons (pv 0) (pa_cons (pv 1) pa_nil))) pa_nil))))))))))), ?_⟩
    walk_at "cx"
    walk_at "rd"
    refine ⟨st, sc, 6, rfl, by decide, by decide, dr, fun d1 H1 d10 d11 dr1 k1 => ?_⟩
    walk_at "rd"
    refine ⟨st, sc, 4294967296, rfl, by decide, by decide, dr1, fun d2 H2 d20 d21 dr2 k2 => ?_⟩
    walk_at "rd"
    refine x_newL fun l3 H3 hl3 k3 e3 => ?_
    walk_at "rd"
    refine ⟨st, sc, 3, rfl, by decide, by decide, dr2.kp k3 id, fun d4 H4 d40 d41 dr4 k4 => ?_⟩
    obtain ⟨_, ho2⟩ := dr2.trk
    have e4 := k4.get e3 (ne_of_none ho2 hl3).symm
    obtain ⟨key, ekey, ckey⟩ := three_at d40 d41 d1 d2 4294967295
    have key0 : 0 ≤ key ∧ key < 4294967296 := by rcases ckey with rfl | rfl | rfl <;> omega
    walk_at "rd"
    try refine x_ixL (SqL.of e4) ekey ?_
    refine ⟨st, sc, 9, rfl, by decide, by decide, dr4, fun bg H5 b0 b1 dr5 k5 => ?_⟩
    have k05 : Kp (F1 st) H H5 := (((k1.trans k2 fun _ z => .inl z).trans k3 fun _ z => z.elim).trans k4 fun _ z => .inl z).trans k5 fun _ z => .inl z
    have hml5 := k05.get hml nsm.symm
    walk_at "rd"
    refine wfor (Wk.list (xs := mvs)) (fun j σ H' => ∃ u7, σ = [some (.ref st), some (.ref sc), some (.ref ml), some (.int (D : Nat)), some (.int sp), some (.int key), some (.int bg), u7] ∧ Kp F0 H5 H' ∧ ∀ x ∈ ms.take j, ¬ (x.a = key ∧ x.b = bg))
      ⟨none, rfl, Kp.refl _, fun x hx => by simp at hx⟩ (fun j σ H' ⟨_, _, kk, _⟩ => SqL.of (kk.get hml5 id)) ?_ ?_
    · rintro j x σ H6 ex ⟨u7, rfl, k6, hno⟩
      obtain ⟨y, ey, hy⟩ := pgt pm ex
      have k06 : Kp (F1 st) H H6 := k05.trans k6 fun _ z => z.elim
      obtain ⟨t, rr, rfl, ht, _⟩ := ((hy.kp k06).it).three
      have cutE : cutV (V.int y.a :: .int y.b :: .int y.c :: rr) none (some 2) = [.int y.a, .int y.b] := rfl
      walk_at "rd"
      refine x_slT ht fun t7 H7 k7 e7 => ?_
      rw [cutE] at e7
      walk_at "rd"
      refine x_newT fun t8 H8 ht8 k8 e8 => ?_
      refine x_eqTI (ns := [y.a, y.b]) (ms := [key, bg]) (k8.sqT e7) (SqT.of e8) ?_
      have k68 : Kp F0 H6 H8 := k7.trans k8 fun _ z => z.elim
      by_cases he : [y.a, y.b] = [key, bg]
      · rw [decide_eq_true he]
        walk_at "rd"
        exact kN H8 (dr5.kp (k6.trans k68 fun _ z => z.elim) id) (k06.trans k68 fun _ z => z.elim)
      · rw [decide_eq_false he]
        walk_at "rd"
        refine ⟨_, rfl, k6.trans k68 fun _ z => z.elim, fun x hx => ?_⟩
        rw [List.take_succ, ey] at hx
        rcases List.mem_append.mp hx with hx | hx
        · exact hno x hx
        · rw [List.mem_singleton.mp hx]
          exact fun z => he (by rw [z.1, z.2])
    · rintro σ H6 ⟨u7, rfl, k6, hno⟩
      rw [lm, List.take_length] at hno
      have dr6 := dr5.kp k6 id
      walk_at "rd"
      refine ⟨st, sc, (D : Int), sp, rfl, by omega, by omega, sp0, by omega, dr6, fun p1 H7 pt lpt bpt ep1 dr7 k7 => ?_⟩
      walk_at "rd"
      refine ⟨st, sc, rfl, dr7, fun p2 H8 pl lpl bpl ep2 dr8 k8 => ?_⟩
      have ep18 := k8.tup ep1
      walk_at "rd"
      refine x_newT fun t9 H9 ht9 k9 e9 => ?_
      have hit : ItOk D 1 ⟨key, bg, 0, some (pt, pl)⟩ := ⟨key0.1, by show key < _; omega, b0, by show bg < _; omega, (by show (0 : Int) ≤ 0; decide), (by show (0 : Int) < 256 ^ 4; decide), .inl ⟨rfl, pt, pl, rfl, by omega, fun x hx => by have := bpt x hx; omega, bpl, by omega⟩⟩
      refine kS H9 t9 ⟨key, bg, 0, some (pt, pl)⟩ (dr8.kp k9 id) ((((k05.trans k6 fun _ z => z.elim).trans k7 fun _ z => .inl z).trans k8 fun _ z => .inl z).trans k9 fun _ z => z.elim) ⟨t9, p1, p2, pt, pl, rfl, e9, rfl, SqT.of (k9.tup ep18), SqT.of (k9.tup ep2)⟩ hit ?_ fun x hx e => ?_
      · unfold SmI
        rw [encI_len]
        show 12 + (2 * pt.length + 1 + pl.length) ≤ 69
        omega
      · exact hno x hx ((ky_ab (rb x hx) hit.rb).mp e)
end
/-! ### the law's world (k17) -/
structure W17 (c : Cl) (K : PySem.W.Frag) (H : Hp) (st sc kt p q m b fl ml : Addr) (D : Nat) (O Od O2 : Addr → Prop) (s : PgS) (M : MT) (ms : List Itm) : Prop where
  dr : Dr K H st sc
  kw : KW c H kt p q 1 D O Od s
  mt : MtAt K H m b fl O2 M
  mv : ∃ mvs, H ml = some (.lst mvs) ∧ Paired (MdV K H) mvs ms
  so : ¬ O st
  mo : ¬ O ml
  s2 : ¬ O2 st
  m2 : ¬ O2 ml
  k2 : ¬ O2 kt
  dj : ∀ x, O x → ¬ O2 x
  sm : st ≠ ml
section
variable {c : Cl} {K : PySem.W.Frag} {H H' : Hp} {st sc kt p q m b fl fl' ml : Addr} {D : Nat} {O O' Od Od' O2 O2' : Addr → Prop} {s s' : PgS} {M M' : MT} {ms : List Itm}
theorem W17.pure (h : W17 c K H st sc kt p q m b fl ml D O Od O2 s M ms) (k : Kp F0 H H') : W17 c K H' st sc kt p q m b fl ml D O Od O2 s M ms := by
  obtain ⟨mvs, hm, pm⟩ := h.mv
  exact ⟨h.dr.kp k id, h.kw.pure k, h.mt.same k, ⟨mvs, k.get hm id, pm.mono fun _ _ z => z.kp k⟩, h.so, h.mo, h.s2, h.m2, h.k2, h.dj, h.sm⟩
theorem W17.draw (h : W17 c K H st sc kt p q m b fl ml D O Od O2 s M ms) (k : Kp (F1 st) H H') (d : Dr K H' st sc) : W17 c K H' st sc kt p q m b fl ml D O Od O2 s M ms := by
  obtain ⟨mvs, hm, pm⟩ := h.mv
  obtain ⟨dx, o⟩ := h.kw.ka.o
  obtain ⟨i, v, ns, _, _, hst, _⟩ := id h.dr
  exact ⟨d, h.kw.off k (fun b z => by rw [z]; exact h.so) (ne_of o hst (by intro z; cases z)), h.mt.off k (fun b z => by rw [z]; exact h.s2), ⟨mvs, k.get hm h.sm.symm, pm.mono fun _ _ z => z.kp k⟩, h.so, h.mo, h.s2, h.m2, h.k2, h.dj, h.sm⟩
theorem W17.pager (h : W17 c K H st sc kt p q m b fl ml D O Od O2 s M ms) (P : PagAt c H' p q O' Od' s') (t : Stp O O' H H') : W17 c K H' st sc kt p q m b fl ml D O' Od' O2 s' M ms := by
  obtain ⟨mvs, hm, pm⟩ := h.mv
  obtain ⟨o, ho⟩ := h.dr.trk
  refine ⟨h.dr.kp t.kp h.so, h.kw.pager P t, h.mt.off t.kp h.dj, ⟨mvs, t.kp.get hm h.mo, pm.mono fun _ _ z => z.kp t.kp⟩, t.kp0 ho h.so, t.kp0 hm h.mo, h.s2, h.m2, h.k2, fun x z y => ?_, h.sm⟩
  obtain ⟨u, hu⟩ := h.mt.2 x y
  exact t.kp0 hu (fun w => h.dj x w y) z
theorem W17.model (h : W17 c K H st sc kt p q m b fl ml D O Od O2 s M ms) (J : MtAt K H' m b fl' O2' M') (t : Stp O2 O2' H H') : W17 c K H' st sc kt p q m b fl' ml D O Od O2' s M' ms := by
  obtain ⟨mvs, hm, pm⟩ := h.mv
  obtain ⟨o, ho⟩ := h.dr.trk
  obtain ⟨dx, ok⟩ := h.kw.ka.o
  exact ⟨h.dr.kp t.kp h.s2, h.kw.off t.kp (fun b z y => h.dj b y z) h.k2, J, ⟨mvs, t.kp.get hm h.m2, pm.mono fun _ _ z => z.kp t.kp⟩, h.so, h.mo, t.kp0 ho h.s2, t.kp0 hm h.m2, t.kp0 ok h.k2, fun x z y => by
    obtain ⟨u, hu⟩ := h.kw.pg.2 x z
    exact t.kp0 hu (h.dj x z) y, h.sm⟩
theorem W17.put {mvs : List V} {ms' : List Itm} (h : W17 c K H st sc kt p q m b fl ml D O Od O2 s M ms) (k : Kp (F1 ml) H H') (e : H' ml = some (.lst mvs)) (pm : Paired (MdV K H') mvs ms') : W17 c K H' st sc kt p q m b fl ml D O Od O2 s M ms' := by
  obtain ⟨mvs0, hm, _⟩ := h.mv
  obtain ⟨dx, o⟩ := h.kw.ka.o
  exact ⟨h.dr.kp k h.sm, h.kw.off k (fun b z => by rw [z]; exact h.mo) (ne_of o hm (by intro z; cases z)), h.mt.off k (fun b z => by rw [z]; exact h.m2), ⟨mvs, e, pm⟩, h.so, h.mo, h.s2, h.m2, h.k2, h.dj, h.sm⟩
end
/-- the pages, the law's tree and its list of entries agree: t operations, e insertions so far -/
def X17 (D t e : Nat) (s : PgS) (M : MT) (ms : List Itm) : Prop := ∃ i i2 m f h ps es m' f' tk, KS D 1 i s m f [] h ps es ∧ R17 D i2 s m' f' tk M ∧ i ≤ 2 + 1230 * t ∧ i2 ≤ 2 + 900 * t ∧ h ≤ e ∧ ms.Perm es ∧ ms.length ≤ e
theorem X17.le {D t e t' e' : Nat} {s : PgS} {M : MT} {ms : List Itm} (h : X17 D t e s M ms) (a : t ≤ t') (b : e ≤ e') : X17 D t' e' s M ms := by
  obtain ⟨i, i2, m, f, h, ps, es, m', f', tk, S, R, h1, h2, h3, h4, h5⟩ := h
  exact ⟨i, i2, m, f, h, ps, es, m', f', tk, S, R, by omega, by omega, by omega, h4, by omega⟩
theorem X17.ok {D t e : Nat} {s : PgS} {M : MT} {ms : List Itm} (h : X17 D t e s M ms) : (∀ x ∈ ms, ItOk D 1 x) ∧ (ms.map ky).Nodup ∧ ms.length ≤ e := by
  obtain ⟨i, i2, m, f, h, ps, es, m', f', tk, S, R, h1, h2, h3, h4, h5⟩ := h
  refine ⟨fun x hx => S.K.ent.k x (h4.mem_iff.mp hx), (h4.map ky).nodup_iff.mpr ?_, h5⟩
  unfold List.Nodup
  rw [List.pairwise_map]
  exact S.K.ent.p.imp fun h => Int.ne_of_lt h
theorem X17.str {D t e : Nat} {s : PgS} {M : MT} {ms : List Itm} (h : X17 D t e s M ms) (nz : gpg s 1 ≠ zeros) : ∃ i m f tk, R17 D i s m f tk M ∧ i ≤ 2 + 900 * t ∧ ∀ n ∈ tk, ∃ kd its, StrI D (gpg s n) kd its := by
  obtain ⟨i, i2, m, f, h, ps, es, m', f', tk, S, R, h1, h2, h3, h4, h5⟩ := h
  refine ⟨i2, m', f', tk, R, h2, fun n hn => ?_⟩
  have := (R.F.same S.F).2 n hn
  rw [List.append_nil] at this
  obtain ⟨kd, its, a, _⟩ := S.str nz this
  exact ⟨kd, its, a⟩
/-- what a way through the tree tells of the law's tree -/
structure WyX (D : Nat) (M : MT) (k b : Int) (path : List (Int × Nat)) (m0 : Int) (e0 : List Itm) (tk : List Int) : Prop where
  w : WayM M k b 1 path m0 e0
  nd : (path.map (·.1) ++ [m0]).Nodup
  tk : ∀ x ∈ path.map (·.1) ++ [m0], x ∈ tk
  hd : (path.map (·.1) ++ [m0]).head? = some 1
  pw : e0.Pairwise fun x y => ky x < ky y
theorem KS.wyx {D i i2 : Nat} {s : PgS} {m m' : Int} {f f' ps tk : List Int} {h : Nat} {es : List Itm} {M : MT} {k b : Int} {path : List (Int × Nat)} {m0 : Int} {e0 : List Itm} (S : KS D 1 i s m f [] h ps es) (R : R17 D i2 s m' f' tk M) (hb : Rb b) (ha : 0 ≤ k ∧ k < 4294967296) (w : Way D (gpg s) k b 1 path m0 e0) :
    WyX D M k b path m0 e0 tk ∧ ∀ x ∈ e0, x ∈ es := by
  have hps : ∀ x ∈ ps, x ∈ tk := fun x hx => (S.F.same R.F).2 x (by simp [hx])
  have nd := S.F.ndt
  rw [List.append_nil] at nd
  have b1 : 0 ≤ kp k b := by unfold kp; have := hb.1; omega
  have b2 : kp k b < Top := by unfold kp Top; have := hb.2; omega
  obtain ⟨W, n1, n2, n3, n4, n5⟩ := KT.wayM R hb h S.K hps nd b1 b2 w
  exact ⟨⟨W, n1, fun x hx => hps x (n2 x hx), n3, n5⟩, n4⟩
section
variable {P : Program} {w : World} {K : PySem.W.Frag} {mg : Str → Option Value} {base : Heap} {c : Cl}
def sp_inserted17 (c : Cl) (K : PySem.W.Frag) : Sp := fun vs H Q _ => ∃ (st sc kt p q m b fl ml te : Addr) (D t e : Nat) (O Od O2 : Addr → Prop) (s : PgS) (M : MT) (ms : List Itm) (it : Itm), vs = [.ref kt, .ref m, .ref ml, .ref te] ∧ D ≤ 8 ∧ W17 c K H st sc kt p q m b fl ml D O Od O2 s M ms ∧ X17 D t e s M ms ∧ t ≤ 299 ∧ e ≤ 150 ∧ MdV K H (.ref te) it ∧ ItOk D 1 it ∧ SmI it ∧ (∀ x ∈ ms, ky x ≠ ky it) ∧
  ∀ H' O' O2' s' M', W17 c K H' st sc kt p q m b fl ml D O' Od O2' s' M' (ms ++ [it]) → X17 D (t + 1) (e + 1) s' M' (ms ++ [it]) → gpg s' 1 ≠ zeros → Q .non H'
theorem ok__law_inserted (T : Txt K mg c) : GF P w K mg base CX0 179 "_law_inserted" (sp_inserted17 c K) := by
  obtain ⟨f, fd, F, gm⟩ := T.f__law_inserted
  have tc_KeyTree := T.cl_KeyTree; have tn_KeyTree_pager := T.n_KeyTree_pager; have tn_KeyTree_root := T.n_KeyTree_root; have tn_KeyTree_dimensions := T.n_KeyTree_dimensions
  refine ⟨f, fd, ["_law_tree", "_law_model", "_law_rows", "_law_entry_here"], F.ok sc__law_inserted ?_ (fun cdv A outer s0 H vs Q E hr h => ?_), gm, F.kp, (F.binds (ps := ["_law_tree", "_law_model", "_law_rows", "_law_entry_here"]) fun _ _ _ _ _ _ us hl => match us, hl with | [_, _, _, _], _ => rfl)⟩
  · rintro vs H Q E ⟨_, _, _, _, _, _, _, _, _, _, _, _, _, _, _, _, _, _, _, _, rfl, _⟩
    rfl
  · obtain ⟨st, sc, kt, p, q, m, b, fl, ml, te, D, t, e, O, Od, O2, s, M, ms, it, rfl, hD, W, X, ht, he, hte, hit, hsm, hne, k⟩ := h
    have X0 := X
    obtain ⟨i, i2, m1, f1, h1, ps, es, m1', f1', tk, S, R, hi, hi2, hh, pm, lms⟩ := X
    obtain ⟨path, m0, e0, s', m2, f2, ps2, h2, way, lp, le, sv, S2, hh2, pot, _⟩ := ins_top hD hit hsm S (fun x hx => hne x (pm.mem_iff.mpr hx)) (by omega)
    obtain ⟨Y, sub⟩ := S.wyx R hit.rb ⟨hit.a0, by have := hit.a1; omega⟩ way
    obtain ⟨tt, r, e', htt, lr⟩ := hte.it.three
    cases e'
    have g := W.mt.own3
    refine ⟨_, (pss_cons (ps_asg (pe_g (ok__law_way T) (hr.mono (by decide)) pass0S (pa_cons (pv 1) (pa_cons (pe_slice (r := rSlA K) sl_tupA (pv 3) po_none (po_some pe_int)) pa_nil))) (pg_kT rfl (pg_tup (n := 2) rfl (pgs_cons (pg_name (i := 4) sc__law_inserted.nd rfl (Or.inl rfl)) (pgs_cons (pg_name (i := 5) sc__law_inserted.nd rfl (Or.inl rfl)) pgs_nil)))))
      (pss_cons (ps_expr (pe_g (ok__law_settled T) (hr.mono (by decide)) pass0S (pa_cons (pv 1) (pa_cons (pv 4) (pa_cons (pv 5) (pa_cons (pe_tup (pa_cons pe_int (pa_cons (pe_callB (r := rSort5 K) cr_sorted5 (by rfl) T.z_sorted (by decide +kernel) (pa_cons (pe_op op_cat (pe_ix (r := rIxT K) ix_tup (pe_dget (hu_of hr) (pe_dget (hu_of hr) (pv 1) pe_str (fun _ _ => rfl)) (pv 5) (fun _ _ => rfl)) pe_int (fun _ _ => rfl)) (pe_lst (pa_cons (pv 3) pa_nil))) pa_nil)) pa_nil))) pa_nil))))))
      (pss_cons (ps_expr (pe_gm T.cl_KeyTree (ok_KeyTree_insert T) (pv 0) (hr.mono (by decide)) pass0S (pa_cons (pv 3) pa_nil)))
      (pss_one (ps_expr (pe_kBM rfl (pe_bm PySem.F.plainAttrs_list PySem.F.slot_list_append PySem.F.type_list_append mt_append (pv 2) (pa_cons (pv 3) pa_nil)))))))), ?_⟩
    walk_at "cx"
    walk_at "rd"
    refine x_slT htt fun t1 H1 k1 e1 => ?_
    have e1' : SqT K H1 t1 [.int it.a, .int it.b] := e1
    have W1 := W.pure k1
    walk_at "rd"
    refine ⟨m, b, fl, t1, O2, M, it.a, it.b, m0, path, e0, rfl, W1.mt, e1', Y.w, by omega, fun H2 t2 pl pvs k2 e2 hpl epl hpv => ?_⟩
    have W2 := W1.pure k2
    obtain ⟨kv, hm2, hb2, lk2, at2⟩ := W2.mt.dict
    obtain ⟨eM, lze⟩ := Y.w.leafE
    obtain ⟨v, ev, tp, lst, ws, rfl, htp, hl, hv, ol, nlf⟩ := at2 m0 _ eM
    have lv : ws.length = e0.length := hv.length
    have oke : ∀ x ∈ e0, ItOk D 1 x := fun x hx => S.K.ent.k x (sub x hx)
    have k02 : Kp F0 H H2 := k1.trans k2 fun _ z => z.elim
    have hte2 := hte.kp k02
    walk_at "rd"
    refine x_dgI (.inl hb2) ev ?_
    walk_at "rd"
    refine x_newL fun l3 H3 hl3 k3 e3 => ?_
    walk_at "rd"
    refine x_catL (k3.get hl id) e3 (by rw [lv, List.length_singleton, sizeLine_eq]; omega) fun l4 H4 hl4 k4 e4 => ?_
    have k24 : Kp F0 H2 H4 := k3.trans k4 fun _ z => z.elim
    have hmd : Paired (MdV K H4) (ws ++ [V.ref te]) (e0 ++ [it]) := by
      refine pr_app ?_ (.cons (hte2.kp k24) .nil)
      have hv4 : ItWs K H4 ws e0 := hv.mono fun _ _ z => z.kp k24
      clear lv ev htp hl e4
      have go : ∀ {ws : List V} {e0 : List Itm}, ItWs K H4 ws e0 → (∀ x ∈ e0, ItOk D 1 x) → Paired (MdV K H4) ws e0 := fun {ws e0} h ok => by
        induction h with
        | nil => exact .nil
        | cons r _ ih =>
          refine .cons (r.2 ?_) (ih fun x hx => ok x (by simp [hx]))
          rcases (ok _ (List.mem_cons_self ..)).k with ⟨_, pt, pl, e, _⟩ | ⟨z, _⟩
          · rw [e]; exact fun z => by cases z
          · exact absurd z (by decide)
      exact go hv4 oke
    have pI : (e0 ++ [it]).Perm (insI it e0) := (List.perm_append_singleton it e0).trans (ins_perm it e0).symm
    have aI : (insI it e0).Pairwise fun x y => ky x < ky y := ins_asc hit.rb (fun x hx => (oke x hx).rb) Y.pw fun x hx => hne x (pm.mem_iff.mpr (sub x hx))
    have rI : ∀ x ∈ insI it e0, ItOk D 1 x := fun x hx => by
      rcases List.mem_cons.mp ((ins_perm it e0).mem_iff.mp hx) with rfl | z
      · exact hit
      · exact oke x z
    walk_at "rd"
    refine x_srt (SqL.of e4) hmd pI aI (fun x hx => (rI x hx).rb) fun ys l5 H5 hl5 k5 e5 hys => ?_
    walk_at "rd"
    refine x_newT fun t6 H6 ht6 k6 e6 => ?_
    walk_at "rd"
    have k26 : Kp F0 H2 H6 := (k24.trans k5 fun _ z => z.elim).trans k6 fun _ z => z.elim
    have k06 : Kp F0 H H6 := k02.trans k26 fun _ z => z.elim
    have fl5 : H2 l5 = none := k24.free hl5 id
    obtain ⟨J6, s26, nf6⟩ := W2.mt.join k26 fl5 ⟨_, k6.get e5 id⟩
    have fpl : H pl = none := k1.free hpl id
    have npl : pl ≠ l5 := ne_of_none epl fl5
    have wI : ItWs K H6 ys (insI it e0) := hys.mono fun _ _ z => ⟨(z.kp k6).it, fun _ => z.kp k6⟩
    have si : i2 + 4 * path.length + 4 ≤ i2 + 4 * h1 + 4 := by omega
    have SS : SI K H6 H6 m b fl pl (fun x => O2 x ∨ x = l5) D (i2 + 4 * h1 + 4) s' m0 (.ref t6) 1 (insI it e0) path (fun x => O2 x ∨ x = l5) M i2 := by
      refine ⟨J6, ⟨t6, l5, ys, rfl, e6, k6.get e5 id, wI, .inr rfl, nf6⟩, ⟨pvs, k26.get epl id, hpv.mono fun _ _ z => z.kp k26⟩, ?_, ⟨s, m1', f1', tk, R, sv, Y.tk m0 (by simp), fun q z => Y.tk q.1 (List.mem_append.mpr (.inl (List.mem_map_of_mem z)))⟩, rI, by split <;> omega, Kp.refl _ |>.mono fun b z => .inl z, fun _ z => .inl z⟩
      rintro (z | z)
      · exact W.mt.fresh fpl z
      · exact npl z
    refine ⟨m, b, fl, pl, .ref t6, m0, 1, insI it e0, path, fun x => O2 x ∨ x = l5, M, D, i2, i2 + 4 * h1 + 4, s', rfl, SS, by omega, by omega, hD, fun H7 O7 M7 i7 mm7 f7 tk7 hM7 R7 li7 kp7 gr7 => ?_⟩
    have st7 : Stp O2 O7 H H7 := by
      refine ⟨fun x o hx nn => ?_, fun x z => ?_⟩
      · by_cases q : O2 x
        · exact kp7 x o (k06.get hx id) fun _ => nn q
        · exact kp7.get (k06.get hx id) fun z => by
            rcases z with z | z
            · exact q (g x z)
            · rw [z, fpl] at hx; cases hx
      · rcases gr7 x z with (y | y) | y
        · exact .inl y
        · exact .inr (by rw [y]; exact k02.free fl5 id)
        · exact .inr (k06.free y id)
    have W7 := W.model hM7 st7
    have hte7 := hte.kp st7.kp
    obtain ⟨dxk, hok⟩ := W7.kw.ka.o
    walk_at "rd"
    refine ⟨kt, p, q, 1, D, .ref te, it, m0, path, e0, O, Od, s, s', rfl, W7.kw, hte7.it, way, by omega, by omega, hD, sv, fun H8 O8 P8 t8 => ?_⟩
    have W8 := W7.pager P8 t8
    obtain ⟨mvs8, hml8, pm8⟩ := W8.mv
    have lm8 := pm8.length
    walk_at "rd"
    refine x_app hml8 (by omega) fun H9 e9 k9 => ?_
    refine k H9 O8 O7 s' M7 (W8.put k9 e9 (pr_app (pm8.mono fun _ _ z => z.kp k9) (.cons ((hte7.kp t8.kp).kp k9) .nil))) ⟨i + 4 * h1 + 8, i7, m2, f2, h2, ps2, insI it es, mm7, f7, tk7, S2, R7, by omega, by omega, by omega, (List.perm_append_singleton it ms).trans ((pm.cons it).trans (ins_perm it es).symm), by rw [List.length_append, List.length_singleton]; omega⟩ (S2.K.nz fun z => ?_)
    have := (ins_perm it es).length_eq
    rw [z] at this
    simp at this
end
theorem erase_set {α : Type} : ∀ {l : List α} {k : Nat} {x y : α}, l[k]? = some x → (l.eraseIdx k ++ [y]).Perm (l.set k y)
  | [], _, _, _, h => by simp at h
  | a :: l, 0, _, y, _ => by
    rw [List.eraseIdx_cons_zero, List.set_cons_zero]
    exact List.perm_append_singleton y l
  | a :: l, k + 1, x, y, h => by
    rw [List.getElem?_cons_succ] at h
    rw [List.eraseIdx_cons_succ, List.set_cons_succ, List.cons_append]
    exact (erase_set h).cons a
theorem erase_perm' {α : Type} : ∀ {l : List α} {k : Nat} {x : α}, l[k]? = some x → l.Perm (x :: l.eraseIdx k)
  | [], _, _, h => by simp at h
  | a :: l, 0, x, h => by
    simp only [List.getElem?_cons_zero, Option.some.injEq] at h
    rw [h, List.eraseIdx_cons_zero]
  | a :: l, k + 1, x, h => by
    rw [List.getElem?_cons_succ] at h
    rw [List.eraseIdx_cons_succ]
    exact ((erase_perm' h).cons a).trans (List.Perm.swap x a _)
theorem asc_inj {es : List Itm} (h : es.Pairwise fun x y => ky x < ky y) {x y : Itm} (hx : x ∈ es) (hy : y ∈ es) (e : ky x = ky y) : x = y := by
  induction h with
  | nil => simp at hx
  | cons a _ ih =>
    rcases List.mem_cons.mp hx with e1 | hx'
    · rcases List.mem_cons.mp hy with e2 | hy'
      · rw [e1, e2]
      · have := a y hy'; rw [e1] at e; omega
    · rcases List.mem_cons.mp hy with e2 | hy'
      · have := a x hx'; rw [e2] at e; omega
      · exact ih hx' hy'
section
variable {P : Program} {w : World} {K : PySem.W.Frag} {mg : Str → Option Value} {base : Heap} {c : Cl}
/-- a deletion of both trees -/
theorem X17.del {D t e : Nat} (hD : D ≤ 8) {s : PgS} {M : MT} {ms : List Itm} (X : X17 D t e s M ms) (ht : t ≤ 299) (he : e ≤ 151) {k : Nat} {x : Itm} (hk : ms[k]? = some x) :
    ∃ path m0 e0 s1 mm kd its s' l i2 m' f' tk, Way D (gpg s) x.a x.b 1 path m0 e0 ∧ path.length ≤ 152 ∧ e0.length ≤ 800 ∧ Dl D path m0 1 (delI x.a x.b e0) s s1 ∧ Dec D (gpg s1 1) kd its ∧ Lw D 1 mm kd its s1 s' ∧ gpg s' 1 ≠ zeros ∧
      R17 D i2 s m' f' tk M ∧ i2 ≤ 2 + 900 * t ∧ WyX D M x.a x.b path m0 e0 tk ∧ (∀ y ∈ e0, ItOk D 1 y) ∧ LwL D 1 l kd its s1 s' ∧ l.Nodup ∧ 1 ∉ l ∧ l.length ≤ 152 ∧ (∀ i1 m1 f1 t1, FR i1 s1 m1 f1 t1 → ∀ x ∈ l, x ∈ t1) ∧ (∀ its, Dec D (gpg s' 1) 2 its → its ≠ []) ∧
      ∀ M' i2' m2 f2 tk2, R17 D i2' s' m2 f2 tk2 M' → i2' ≤ i2 + 2 * path.length + 2 * l.length + 4 → X17 D (t + 1) e s' M' (ms.eraseIdx k) := by
  obtain ⟨ok, nd, le'⟩ := X.ok
  have ox := ok x (List.mem_of_getElem? hk)
  obtain ⟨i, i2, m, f, h, ps, es, m', f', tk, S, R, h1, h2, h3, h4, h5⟩ := X
  obtain ⟨path, m0, e0, s1, mm, kd, its, s', m2, f2, ps2, h', way, lp, le, dl, dec, lw, S', hh, nz, pot, _, l, j, mq, fq, tq, lwl, Fq, lnd, l1, r1, ll, lt⟩ := del_top hD ⟨ox.a0, by have := ox.a1; omega⟩ ox.rb S (by omega)
  obtain ⟨Y, sub⟩ := S.wyx R ox.rb ⟨ox.a0, by have := ox.a1; omega⟩ way
  refine ⟨path, m0, e0, s1, mm, kd, its, s', l, i2, m', f', tk, way, by omega, by omega, dl, dec, lw, nz, R, h2, Y, fun y hy => S.K.ent.k y (sub y hy), lwl, lnd, l1, by omega, fun i1 m1 f1 t1 F1 x hx => (Fq.same F1).2 x (lt x hx), fun its' d' => ?_, fun M' i2' m3 f3 tk3 R' li => ⟨i + 8 * h + 16, i2', m2, f2, h', ps2, _, m3, f3, tk3, S', R', by omega, by omega, by omega, ?_, by have := List.length_eraseIdx_le ms k; omega⟩⟩
  · obtain ⟨kd', its2, ps3, _, d2, _, c2⟩ := S'.K
    obtain ⟨e1, e2⟩ := d2.det d'
    subst e1
    rw [← e2]
    cases h' with
    | zero => exact absurd c2.1 (by decide)
    | succ n => exact c2.2.1
  · rw [erase_del hk (fun y hy => (ok y hy).rb) nd]
    exact h4.filter _
theorem mdv_cut {K : PySem.W.Frag} {H : Hp} {v : V} {x : Itm} (h : MdV K H v x) : ∃ t r, v = .ref t ∧ H t = some (.tup (.int x.a :: .int x.b :: .int x.c :: r)) ∧ cutV (.int x.a :: .int x.b :: .int x.c :: r) none (some 2) = [.int x.a, .int x.b] ∧ cutV (.int x.a :: .int x.b :: .int x.c :: r) (some 3) none = r ∧ ∃ p1 p2 pt pl, r = [.ref p1, .ref p2] ∧ x.x = some (pt, pl) ∧ SqT K H p1 (pt.map V.int) ∧ SqT K H p2 (pl.map V.int) := by
  obtain ⟨t, p1, p2, pt, pl, rfl, h0, ex, h1, h2⟩ := h
  exact ⟨t, _, rfl, h0, rfl, rfl, p1, p2, pt, pl, rfl, ex, h1, h2⟩
def sp_step17 (c : Cl) (K : PySem.W.Frag) : Sp := fun vs H Q _ => ∃ (st sc kt p q m b fl ml : Addr) (D t e : Nat) (sp : Int) (O Od O2 : Addr → Prop) (s : PgS) (M : MT) (ms : List Itm), vs = [.ref st, .ref sc, .ref kt, .ref m, .ref ml, .int (D : Nat), .int sp] ∧ 0 ≤ sp ∧ sp ≤ 32767 ∧ D ≤ 8 ∧ W17 c K H st sc kt p q m b fl ml D O Od O2 s M ms ∧ X17 D t e s M ms ∧ gpg s 1 ≠ zeros ∧ t ≤ 298 ∧ e ≤ 150 ∧
  ∀ H' fl' O' O2' s' M' ms', W17 c K H' st sc kt p q m b fl' ml D O' Od O2' s' M' ms' → X17 D (t + 1) (e + 1) s' M' ms' → gpg s' 1 ≠ zeros → Q .non H'
theorem ok__law_step (T : Txt K mg c) : GF P w K mg base CX0 180 "_law_step" (sp_step17 c K) := by
  obtain ⟨f, fd, F, gm⟩ := T.f__law_step
  have tc_KeyTree := T.cl_KeyTree; have tn_KeyTree_pager := T.n_KeyTree_pager; have tn_KeyTree_root := T.n_KeyTree_root; have tn_KeyTree_dimensions := T.n_KeyTree_dimensions
  refine ⟨f, fd, ["_law_state", "_law_script", "_law_tree", "_law_model", "_law_rows", "_law_many", "_law_span"], F.ok sc__law_step ?_ (fun cdv A outer s0 H vs Q E hr h => ?_), gm, F.kp, (F.binds (ps := ["_law_state", "_law_script", "_law_tree", "_law_model", "_law_rows", "_law_many", "_law_span"]) fun _ _ _ _ _ _ us hl => match us, hl with | [_, _, _, _, _, _, _], _ => rfl)⟩
  · rintro vs H Q E ⟨_, _, _, _, _, _, _, _, _, _, _, _, _, _, _, _, _, _, _, rfl, _⟩
    rfl
  · obtain ⟨st, sc, kt, p, q, m, b, fl, ml, D, t, e, sp, O, Od, O2, s, M, ms, rfl, sp0, sp1, hD, W, X, nz, ht, he, k⟩ := h
    obtain ⟨ok, nd, lms⟩ := X.ok
    refine ⟨_, (pss_cons (ps_set (i := 7) sc__law_step.nd rfl (Or.inl rfl) (pe_g (ok__law_draw T) (hr.mono (by decide)) pass0S (pa_cons (pv 0) (pa_cons (pv 1) (pa_cons pe_int pa_nil)))))
      (pss_cons (ps_if (PW.pt (pw_or (pt_cmpR op_lt (pv 7) pe_int (nomark _)) (pw_or1 (pt_cmpR op_eq (pe_callB (r := rLenQ K) c_len (by rfl) T.z_len PySem.boot_len (pa_cons (pv 4) pa_nil)) pe_int (nomark _))))) (pss_cons (ps_set (i := 8) sc__law_step.nd rfl (Or.inr rfl) (pe_g (ok__law_new T) (hr.mono (by decide)) pass0S (pa_cons (pv 0) (pa_cons (pv 1) (pa_cons (pv 4) (pa_cons (pv 5) (pa_cons (pv 6) pa_nil)))))))
      (C8.pss_cut (ps_if (pt_cmpR o_notN (pv 8) pe_non (nomark _)) (pss_one (ps_expr (pe_g (ok__law_inserted T) (hr.mono (by decide)) pass0S (pa_cons (pv 2) (pa_cons (pv 3) (pa_cons (pv 4) (pa_cons (pv 8) pa_nil))))))) pss_nil)
      (pss_one ps_retN))) pss_nil)
      (pss_cons (ps_set (i := 8) sc__law_step.nd rfl (Or.inr rfl) (pe_kBM rfl (pe_bm PySem.F.plainAttrs_list PySem.F.slot_list_pop PySem.F.type_list_pop mt_popAt (pv 4) (pa_cons (pe_g (ok__law_draw T) (hr.mono (by decide)) pass0S (pa_cons (pv 0) (pa_cons (pv 1) (pa_cons (pe_callB (r := rLenQ K) c_len (by rfl) T.z_len PySem.boot_len (pa_cons (pv 4) pa_nil)) pa_nil)))) pa_nil))))
      (pss_one (ps_if (pt_cmpR op_eq (pv 7) pe_int (nomark _)) (pss_cons (ps_set (i := 9) sc__law_step.nd rfl (Or.inr rfl) (pe_op (r := rCatA K) op_catA (pe_op (r := rCatA K) op_catA (pe_slice (r := rSlA K) sl_tupA (pv 8) po_none (po_some pe_int)) (pe_tup (pa_cons (pe_g (ok__law_draw T) (hr.mono (by decide)) pass0S (pa_cons (pv 0) (pa_cons (pv 1) (pa_cons pe_int pa_nil)))) pa_nil))) (pe_slice (r := rSlA K) sl_tupA (pv 8) (po_some pe_int) po_none)))
      (pss_cons (ps_set (i := 10) sc__law_step.nd rfl (Or.inl rfl) (pe_ix (r := rIxT K) ix_tup (pe_g (ok__law_way T) (hr.mono (by decide)) pass0S (pa_cons (pv 3) (pa_cons (pe_slice (r := rSlA K) sl_tupA (pv 8) po_none (po_some pe_int)) pa_nil))) pe_int (fun _ _ => rfl)))
      (pss_cons (ps_setLc (i := 11) (own := [("_law_one", 13)]) (g := (gName 13)) (tt := tYes) rfl sc__law_step.nd rfl rfl (sw_true rfl rfl rfl (by decide +kernel)) (pi_listK rfl (pe_ix (r := rIxT K) ix_tup (pe_dget (hu_of hr) (pe_dget (hu_of hr) (pv 3) pe_str (fun _ _ => rfl)) (pv 10) (fun _ _ => rfl)) pe_int (fun _ _ => rfl))) (blkOk_by (N := ["_law_state", "_law_script", "_law_tree", "_law_model", "_law_rows", "_law_many", "_law_span", "_law_kind", "_law_entry_here", "_law_other", "_law_number", "_law_items", "_law_pages", "_law_one"]) (sc := defScope s__law_step) (by decide +kernel)) (fun _ _ _ _ _ => (pg_name (i := 13) sc__law_step.nd rfl (Or.inl rfl))) (fun _ _ _ _ _ => pts_nil) (fun _ _ _ _ _ => (pe_ix (r := rIxL K) ix_list (pe_lst (pa_cons (pv 13) (pa_cons (pv 9) pa_nil))) (pe_callTy c_int (by rfl) T.z_int (by decide +kernel) (pa_cons (pe_cmpR (r := rEqD K) (op_eqD hr.units) (pv 13) (pv 8) (nomark _)) pa_nil)) (fun _ _ => rfl))))
      (pss_cons (ps_set (i := 12) sc__law_step.nd rfl (Or.inl rfl) (pe_dget (hu_of hr) (pv 3) pe_str (fun _ _ => rfl)))
      (pss_cons (ps_dput (hu_of hr) (pv 12) (pv 10) (pe_tup (pa_cons pe_int (pa_cons (pv 11) pa_nil))) rfl)
      (pss_cons (ps_expr (pe_gm T.cl_KeyTree (ok_KeyTree_replace T) (pv 2) (hr.mono (by decide)) pass0S (pa_cons (pe_ix (r := rIxT K) ix_tup (pv 8) pe_int (fun _ _ => rfl)) (pa_cons (pe_ix (r := rIxT K) ix_tup (pv 8) pe_int (fun _ _ => rfl)) (pa_cons (pe_ix (r := rIxT K) ix_tup (pv 9) pe_int (fun _ _ => rfl)) pa_nil)))))
      (pss_one (ps_expr (pe_kBM rfl (pe_bm PySem.F.plainAttrs_list PySem.F.slot_list_append PySem.F.type_list_append mt_append (pv 4) (pa_cons (pv 9) pa_nil))))))))))) (pss_cons (ps_expr (pe_g (ok__law_deleted T) (hr.mono (by decide)) pass0S (pa_cons (pv 3) (pa_cons (pe_slice (r := rSlA K) sl_tupA (pv 8) po_none (po_some pe_int)) pa_nil))))
      (pss_one (ps_expr (pe_gm T.cl_KeyTree (ok_KeyTree_delete T) (pv 2) (hr.mono (by decide)) pass0S (pa_cons (pe_ix (r := rIxT K) ix_tup (pv 8) pe_int (fun _ _ => rfl)) (pa_cons (pe_ix (r := rIxT K) ix_tup (pv 8) pe_int (fun _ _ => rfl)) pa_nil))))))))))), ?_⟩
    walk_at "cx"
    walk_at "rd"
    refine ⟨st, sc, 8, rfl, by decide, by decide, W.dr, fun kd H1 kd0 kd1 dr1 k1 => ?_⟩
    have W1 := W.draw k1 dr1
    obtain ⟨mvs, hml1, pm1⟩ := W1.mv
    have lmv := pm1.length
    walk_at "rd"
    refine if_nest ?_ fun hb rest => ?_
    · walk_at "rd"
      refine ⟨st, sc, ml, D, sp, mvs, ms, rfl, sp0, sp1, hD, W1.dr, hml1, W1.sm, pm1, fun x hx => (ok x hx).rb, fun H2 dr2 k2 => ?_, fun H2 te it dr2 k2 hte hit hsm hne => ?_⟩
      · have W2 := W1.draw k2 dr2
        walk_at "rd"
        refine x_cutN ?_
        walk_at "rd"
        exact k H2 fl O O2 s M ms W2 (X.le (Nat.le_succ _) (Nat.le_succ _)) nz
      · have W2 := W1.draw k2 dr2
        walk_at "rd"
        refine x_cutN ?_
        walk_at "rd"
        refine ⟨st, sc, kt, p, q, m, b, fl, ml, te, D, t, e, O, Od, O2, s, M, ms, it, rfl, hD, W2, X, by omega, he, hte, hit, hsm, hne, fun H3 O3 O23 s3 M3 W3 X3 nz3 => ?_⟩
        walk_at "rd"
        exact k H3 fl O3 O23 s3 M3 _ W3 X3 nz3
    · walk_at "rd"
      rw [lmv]
      refine ite_dec (fun e0 => ?_) fun e0 => ?_
      · first | exact rest | exact x_ifTT rest
      · have lpos : 0 < ms.length := by omega
        walk_at "rd"
        rw [lmv]
        refine ⟨st, sc, (ms.length : Int), rfl, by omega, by omega, W1.dr, fun j H2 j0 j1 dr2 k2 => ?_⟩
        have W2 := W1.draw k2 dr2
        obtain ⟨jn, rfl⟩ := Int.eq_ofNat_of_zero_le j0
        have hj : jn < ms.length := by omega
        obtain ⟨x, ex⟩ : ∃ x, ms[jn]? = some x := ⟨_, List.getElem?_eq_getElem hj⟩
        obtain ⟨mvs3, hml3, pm3⟩ := W2.mv
        have lm3 := pm3.length
        obtain ⟨v3, ev3, r3⟩ := pgetr pm3 ex
        have hx := List.mem_of_getElem? ex
        have ox := ok x hx
        walk_at "rd"
        refine ⟨ml, mvs3, (jn : Nat), jn, v3, rfl, rfl, hml3, by omega, by omega, seqIx (by omega), ev3, ?_⟩
        have kA : Kp (F1 ml) H2 (upd H2 ml (.lst (mvs3.eraseIdx jn))) := Kp.put hml3 id
        have eA : (upd H2 ml (.lst (mvs3.eraseIdx jn)) : Hp) ml = some (.lst (mvs3.eraseIdx jn)) := upd_same
        generalize upd H2 ml (.lst (mvs3.eraseIdx jn)) = HA at kA eA ⊢
        have WA := W2.put kA eA (pr_erase jn (pm3.mono fun _ _ z => z.kp kA))
        have rA := r3.kp kA
        obtain ⟨tx, rr, rfl, htx, cut1, cut2, p1, p2, pt, pl, err, exx, hp1, hp2⟩ := mdv_cut rA
        walk_at "rd"
        refine ite_dec (fun e1 => ?_) fun e1 => ?_
        · walk_at "rd"
          refine x_slT (SqT.of htx) fun t4 H4 k4 e4 => ?_
          rw [cut1] at e4
          have W4 := WA.pure k4
          walk_at "rd"
          refine ⟨st, sc, 4294967296, rfl, by decide, by decide, W4.dr, fun en H5 en0 en1 dr5 k5 => ?_⟩
          have W5 := W4.draw k5 dr5
          have e45 := k5.sqT e4
          have kA5 : Kp (F1 st) HA H5 := (k4.mono fun _ z => z.elim).trans k5 fun _ z => .inl z
          have htx5 := kA5.tup htx
          walk_at "rd"
          refine x_newT fun t6 H6 ht6 k6 e6 => ?_
          walk_at "rd"
          refine x_catT' (k6.sqT e45) (SqT.of e6) (List.cons_ne_nil _ _) (List.cons_ne_nil _ _) (Nat.le_of_ble_eq_true rfl) fun t7 H7 k7 e7 => ?_
          have k57 : Kp F0 H5 H7 := k6.trans k7 fun _ z => z.elim
          have htx7 := k57.tup htx5
          walk_at "rd"
          refine x_slT (SqT.of htx7) fun t8 H8 k8 e8 => ?_
          rw [cut2] at e8
          walk_at "rd"
          refine x_catT' (k8.sqT (SqT.of e7)) e8 (List.cons_ne_nil _ _) (by rw [err]; exact List.cons_ne_nil _ _) (by rw [err]; exact Nat.le_of_ble_eq_true rfl) fun t9 H9 k9 e9 => ?_
          have k59 : Kp F0 H5 H9 := (k57.trans k8 fun _ z => z.elim).trans k9 fun _ z => z.elim
          have W9 := W5.pure k59
          have kA9 : Kp (F1 st) HA H9 := kA5.trans k59 fun _ z => z.elim
          have htx9 := kA9.tup htx
          have rA9 := rA.kp kA9
          have mo : MdV K H9 (.ref t9) { x with c := en } := ⟨t9, p1, p2, pt, pl, rfl, by rw [e9, err]; rfl, exx, kA9.sqT hp1, kA9.sqT hp2⟩
          walk_at "rd"
          obtain ⟨i, i2, m1, f1, h1, ps, es, m1', f1', tk, S, R, hi, hi2, hh, pm, _⟩ := X
          obtain ⟨path, m0, e0', way, lp, le0, hm0, ft, ok0, S', nz', pot, _⟩ := rep_top ⟨ox.a0, by have := ox.a1; omega⟩ ox.rb en0 (by omega) S
          obtain ⟨Y, sub⟩ := S.wyx R ox.rb ⟨ox.a0, by have := ox.a1; omega⟩ way
          refine x_slT (SqT.of htx9) fun t10 H10 k10 e10 => ?_
          rw [cut1] at e10
          have W10 := W9.pure k10
          walk_at "rd"
          refine ⟨m, b, fl, t10, O2, M, x.a, x.b, m0, path, e0', rfl, W10.mt, e10, Y.w, by omega, fun H11 t11 pl' pvs k11 e11 hpl epl hpv => ?_⟩
          have W11 := W10.pure k11
          walk_at "rd"
          try refine x_ixT (v := .int m0) (SqT.of e11) (atI_at 1 rfl rfl) ?_
          obtain ⟨kv, hm11, hb11, lk11, at11⟩ := W11.mt.dict
          obtain ⟨eM, lze⟩ := Y.w.leafE
          obtain ⟨v, ev, tp, lst, ws, rfl, htp, hl, hv, ol, nlf⟩ := at11 m0 _ eM
          have lv : ws.length = e0'.length := hv.length
          have k911 : Kp F0 H9 H11 := k10.trans k11 fun _ z => z.elim
          have rA11 := rA9.kp k911
          have mo11 := mo.kp k911
          walk_at "rd"
          refine x_dgI (.inl hb11) ev ?_
          walk_at "rd"
          refine wlcH (Wk.list (xs := ws)) F0 (fun D' i acc H' => ItWs K H' acc ((e0'.take i).map (repI x.a x.b en))) (fun b z => z.elim) (by omega) (fun D' i acc H' _ s => SqL.of (s.get hl id)) (fun _ _ => .nil) (fun D' i acc H' H4 k h => h.mono fun _ _ z => z.kp k) (fun D' i v' acc H' Rr R0 exv hD' hacc pv kp hR hR0 => ?_) (fun z H12 acc hz hz12 pv k12 => ?_)
          · obtain ⟨y, ey, hy⟩ := pgt hv exv
            have tk' : (e0'.take (i + 1)).map (repI x.a x.b en) = (e0'.take i).map (repI x.a x.b en) ++ [repI x.a x.b en y] := by rw [List.take_succ, ey, List.map_append]; rfl
            have hyE := List.mem_of_getElem? ey
            have rAk := rA11.kp kp
            have mok := mo11.kp kp
            walk_at "rd"
            refine ⟨rfl, ?_⟩
            walk_at "rd"
            refine x_newL fun l13 H13 hl13 k13 e13 => ?_
            walk_at "rd"
            refine x_eqD ((hy.kp kp).kp k13).1.dp (rAk.kp k13).it.dp (itD_sh _).shaped (itD_sh _).shaped ?_
            rw [eqv_dec (p := y = x) (itD_sh _).2.2 (itD_sh _).2.2 itD_inj]
            walk_at "rd"
            by_cases q : y = x
            · rw [decide_eq_true q]
              subst q
              refine x_ixL (v := .ref t9) (SqL.of e13) (atI_at 1 rfl rfl) ?_
              have er : repI y.a y.b en y = { y with c := en } := if_pos ⟨rfl, rfl⟩
              exact hR _ H13 k13 (by rw [tk', er]; exact pr_app (pv.mono fun _ _ z => z.kp k13) (.cons ⟨(mok.kp k13).it, fun _ => mok.kp k13⟩ .nil))
            · rw [decide_eq_false q]
              refine x_ixL (v := v') (SqL.of e13) (atI_at 0 rfl rfl) ?_
              have er : repI x.a x.b en y = y := if_neg fun z => q (asc_inj S.K.ent.p (sub y hyE) (pm.mem_iff.mp hx) (by unfold ky; rw [z.1, z.2]))
              exact hR _ H13 k13 (by rw [tk', er]; exact pr_app (pv.mono fun _ _ z => z.kp k13) (.cons ((hy.kp kp).kp k13) .nil))
          · rw [lv, List.take_length] at pv
            have W12 := W11.pure k12
            have hm12 := k12.get hm11 id
            walk_at "rd"
            refine x_newT fun t13 H13 ht13 k13 e13 => ?_
            have k1113 : Kp F0 H11 H13 := k12.trans k13 fun _ z => z.elim
            have hb13 := k1113.get hb11 id
            have szR := R.sz
            walk_at "rd"
            refine x_dpI hb13 (by omega) fun H14 e14 k14 => ?_
            obtain ⟨hM14, st14⟩ := W11.mt.storeN k1113 hz (k13.get hz12 id) e13 (pv.mono fun _ _ z => z.kp k13) hb11 k14 e14
            have W14 := W11.model hM14 (st14.stp W11.mt.own3)
            have R14 := R.put (Y.tk m0 (by simp)) (.inl rfl) (fun it hi => by
              obtain ⟨y, hy, rfl⟩ := List.mem_map.mp hi
              exact rep_ok en0 (by omega) (ok0 y hy)) ft
            have rA14 := (rA11.kp k1113).kp k14
            have mo14 := (mo11.kp k1113).kp k14
            have htx14 := k14.tup (k1113.tup (k911.tup htx9))
            obtain ⟨t9', e9', ht9⟩ : ∃ r, H14 t9 = some (.tup (.int x.a :: .int x.b :: .int en :: r)) ∧ True := by
              obtain ⟨t', p1', p2', pt', pl', e', h0', _⟩ := mo14
              cases e'
              exact ⟨_, h0', trivial⟩
            obtain ⟨dxk, hok⟩ := W14.kw.ka.o
            walk_at "rd"
            refine x_ixT (v := .int x.a) (SqT.of htx14) (atI_at 0 rfl rfl) ?_
            walk_at "rd"
            refine x_ixT (v := .int x.b) (SqT.of htx14) (atI_at 1 rfl rfl) ?_
            walk_at "rd"
            refine x_ixT (v := .int en) (SqT.of e9') (atI_at 2 rfl rfl) ?_
            have dl := S.F.dl
            walk_at "rd"
            refine ⟨kt, p, q, 1, D, x.a, x.b, en, m0, path, e0', O, Od, s, rfl, W14.kw, way, fun it hi => ?_, fun it hi => (ok0 it hi).kd (by omega), by omega, by omega, hD, ft, by omega, fun H15 O15 P15 t15 => ?_⟩
            · rcases (ok0 it hi).k with ⟨_, pt', pl', e', _⟩ | ⟨z, _⟩
              · exact ⟨pt', pl', e'⟩
              · exact absurd z (by decide)
            · have W15 := W14.pager P15 t15
              obtain ⟨mvs15, hml15, pm15⟩ := W15.mv
              have lm15 := pm15.length
              rw [List.length_eraseIdx] at lm15
              have mo15 := mo14.kp t15.kp
              walk_at "rd"
              refine x_app hml15 (by split at lm15 <;> omega) fun H16 e16 k16 => ?_
              refine k H16 fl O15 _ _ _ _ (W15.put k16 e16 (pr_app (pm15.mono fun _ _ z => z.kp k16) (.cons (mo15.kp k16) .nil))) ⟨i + 1, i2 + 1, m1, f1, h1, ps, es.map (repI x.a x.b en), m1', f1', tk, S', R14, by omega, by omega, by omega, ?_, by rw [List.length_append, List.length_singleton, List.length_eraseIdx]; split <;> omega⟩ (nz' nz)
              refine (erase_set ex).trans ?_
              rw [set_rep ex (fun y hy => (ok y hy).rb) nd]
              exact pm.map _
        · obtain ⟨path, m0, e0', s1, mm, kd', its, s', l, i2, m', f', tk, way, lp, le0, dl, dec, lw, nz', R, hi2, Y, oke, lwl, lnd, l1, ll, hlt, hroot, fin⟩ := X.del hD (by omega) (by omega) ex
          have WA' := WA
          walk_at "rd"
          refine x_slT (SqT.of htx) fun t4 H4 k4 e4 => ?_
          rw [cut1] at e4
          have W4 := WA.pure k4
          walk_at "rd"
          refine ⟨m, b, fl, t4, O2, M, D, i2, x.a, x.b, m', m0, f', tk, l, s, s1, s', kd', path, e0', its, rfl, W4.mt, e4, R, Y.w, by omega, Y.nd, Y.tk, Y.hd, oke, dl, dec, lwl, lnd, l1, hlt, hroot, by omega, fun H5 O5 M5 i5 fl5 m5 f5 tk5 hM5 R5 li5 st5 => ?_⟩
          have W5 := W4.model hM5 st5
          have htx5 := st5.kp.tup (k4.tup htx)
          obtain ⟨dxk, hok⟩ := W5.kw.ka.o
          walk_at "rd"
          refine x_ixT (v := .int x.a) (SqT.of htx5) (atI_at 0 rfl rfl) ?_
          walk_at "rd"
          refine x_ixT (v := .int x.b) (SqT.of htx5) (atI_at 1 rfl rfl) ?_
          walk_at "rd"
          refine ⟨kt, p, q, 1, D, mm, x.a, x.b, m0, kd', path, e0', its, O, Od, s, s1, s', rfl, W5.kw, way, by omega, hD, le0, dl, dec, lw, fun H6 O6 P6 t6 => ?_⟩
          walk_at "rd"
          exact k H6 fl5 O6 O5 s' M5 _ (W5.pager P6 t6) ((fin M5 i5 m5 f5 tk5 R5 li5).le (Nat.le_refl _) (Nat.le_succ _)) nz'
end
/-! ### laws over trees: the first state, keys, sorted numbers -/
theorem FR.zero {s : PgS} (z : ∀ n, gpg s n = zeros) (d : s.dir = []) : FR 1 (cnth s) 1 [] [] ∧ Pot (cnth s) = 8 := by
  have f6 : fld s 6 = 0 := by unfold fld; rw [z]; rfl
  have e : cnth s = setf 6 1 s := if_pos f6
  have hz : 4 * (6 + 1) ≤ (gpg s 0).length := by rw [z]; decide
  have v6 : vf (gpg (setf 6 1 s)) 6 = 1 := by rw [gpg_set, vset_vf (by decide) (by decide) hz, if_pos rfl]
  have v7 : vf (gpg (setf 6 1 s)) 7 = 0 := by
    rw [gpg_set, vset_vf (by decide) (by decide) hz, if_neg (by decide)]
    unfold vf; rw [z]; rfl
  rw [e]
  refine ⟨⟨fun n => ?_, v6, v7, List.nodup_nil, fun n h => by simp at h, fun n a b => by omega, by decide, by decide, ?_⟩, ?_⟩
  · rw [gpg_set]; unfold vset vput; split
    · rw [spl_len hz, z]; rfl
    · rw [z]; rfl
  · have := setf_len s 6 1
    rw [d] at this
    exact Nat.le_trans this (by decide)
  · unfold Pot
    rw [v6]; rfl
theorem mod97 : ∀ d : Fin 97, ∀ s : Fin 97, d.val ≠ 0 → s.val ≠ 0 → (d.val * s.val) % 97 ≠ 0 := by decide +kernel
theorem key97 {a b s : Nat} (hb : b < 90) (ha : a < b) (hs : 1 ≤ s ∧ s ≤ 96) : (a * s) % 97 ≠ (b * s) % 97 := fun e => by
  have h := mod97 ⟨b - a, by omega⟩ ⟨s, by omega⟩ (by show b - a ≠ 0; omega) (by show s ≠ 0; omega)
  have h2 : b * s = a * s + (b - a) * s := by rw [← Nat.add_mul, Nat.add_sub_cancel' (by omega)]
  rw [h2] at e
  have h : ((b - a) * s) % 97 ≠ 0 := h
  generalize a * s = X at e
  generalize (b - a) * s = Y at e h
  omega
theorem rgl_map {lo : Int} {n : Nat} : rgl lo n = ((List.range n).map fun i => lo + ((i : Nat) : Int)).map V.int := by
  unfold rgl
  rw [List.map_map]; rfl
theorem int_srt : ∀ {a b : List Int}, a.Perm b → a.Pairwise (· ≤ ·) → b.Pairwise (· ≤ ·) → a = b
  | [], b, p, _, _ => List.Perm.nil_eq p
  | x :: a, [], p, _, _ => absurd p.length_eq (by simp)
  | x :: a, y :: b, p, h, g => by
    have e : x = y := by
      rw [List.pairwise_cons] at h g
      have m1 := p.mem_iff.mp (List.mem_cons_self (a := x) (l := a))
      have m2 := p.mem_iff.mpr (List.mem_cons_self (a := y) (l := b))
      rcases List.mem_cons.mp m1 with e | m1
      · exact e
      · rcases List.mem_cons.mp m2 with e | m2
        · exact e.symm
        · have := g.1 x m1; have := h.1 y m2; omega
    subst e
    rw [int_srt p.cons_inv (List.pairwise_cons.mp h).2 (List.pairwise_cons.mp g).2]
theorem FR.all {i : Nat} {s : PgS} {m : Int} {f t : List Int} (F : FR i s m f t) {ns : List Int} (p : ns.Perm (t ++ f)) (so : ns.Pairwise (· ≤ ·)) : ns = (List.range (m - 1).toNat).map fun i => 1 + ((i : Nat) : Int) := by
  have m1 := F.m1
  have asc : ((List.range (m - 1).toNat).map fun i => 1 + ((i : Nat) : Int)).Pairwise (· < ·) := by
    rw [List.pairwise_map]
    exact List.pairwise_lt_range.imp fun h => by omega
  refine int_srt (p.trans (List.perm_append_comm.trans ?_)) so (asc.imp fun h => Int.le_of_lt h)
  have nd2 : ((List.range (m - 1).toNat).map fun i => 1 + ((i : Nat) : Int)).Nodup := asc.imp fun h => Int.ne_of_lt h
  refine (List.perm_ext_iff_of_nodup F.nd nd2).mpr fun x => ⟨fun hx => ?_, fun hx => ?_⟩
  · have := F.rg x hx
    exact List.mem_map.mpr ⟨(x - 1).toNat, List.mem_range.mpr (by omega), by omega⟩
  · obtain ⟨j, hj, rfl⟩ := List.mem_map.mp hx
    have := List.mem_range.mp hj
    exact F.fu _ (by omega) (by omega)
theorem rep_one {α : Type} (x : α) : ∀ n : Nat, (List.replicate n [x]).flatten = List.replicate n x
  | 0 => rfl
  | n + 1 => by rw [List.replicate_succ, List.flatten_cons, rep_one x n, List.replicate_succ]; rfl
theorem x_repT {K : PySem.W.Frag} {H : Hp} {Q : VK} {l : Addr} {xs : List V} {k : Int} (h : SqT K H l xs) (n : xs ≠ []) (k2 : 2 ≤ k) (k1 : k ≤ 1000) (hz : xs.length ≤ 1000) (q : ∀ p H1, Kp F0 H H1 → H1 p = some (.tup (List.replicate k.toNat xs).flatten) → Q (.ref p) H1) : rRepT K (.ref l) (.int k) H Q :=
  ⟨l, k, xs, rfl, rfl, h, n, k2, k1, hz, fun p hp => q p _ (Kp.new hp) upd_same⟩
section
variable {σ : L2.St} {H : Hp} {Q : VK} {tk tv : TE} {r : List (TE × TE)} {R : List (V × V) → Hp → Prop}
theorem x_pc (h : tk σ H fun x H1 => tv σ H1 fun y H2 => tPairs r σ H2 fun ps H3 => R ((x, y) :: ps) H3) : tPairs ((tk, tv) :: r) σ H R := h
theorem x_pn (h : R [] H) : tPairs [] σ H R := h
end
theorem X17.touch {D t e : Nat} (hD : D ≤ 8) {s : PgS} {M : MT} {ms : List Itm} (X : X17 D t e s M ms) (z : gpg s 1 = zeros) {it : Itm} (hit : ItOk D 1 it) (hsm : SmI it) (ht : t ≤ 298) :
    Way D (gpg s) it.a it.b 1 [] 1 [] ∧ Sv D [] 1 1 (insI it []) s (pwr 1 (pad (encB 1 [it])) s) ∧ Way D (gpg (pwr 1 (pad (encB 1 [it])) s)) it.a it.b 1 [] 1 [it] ∧ Dl D [] 1 1 (delI it.a it.b [it]) (pwr 1 (pad (encB 1 [it])) s) (pwr 1 (pad (encB 1 [])) (pwr 1 (pad (encB 1 [it])) s)) ∧
      Dec D (gpg (pwr 1 (pad (encB 1 [])) (pwr 1 (pad (encB 1 [it])) s)) 1) 1 [] ∧ X17 D (t + 1) e (pwr 1 (pad (encB 1 [])) (pwr 1 (pad (encB 1 [it])) s)) M ms ∧ gpg (pwr 1 (pad (encB 1 [])) (pwr 1 (pad (encB 1 [it])) s)) 1 ≠ zeros := by
  obtain ⟨i, i2, m, f, h, ps, es, m', f', tk, S, R, h1, h2, h3, h4, h5⟩ := X
  have ees : es = [] := by
    cases es with
    | nil => rfl
    | cons x r => exact absurd z (S.K.nz (by simp))
  subst ees
  have ps1 : ps = [1] := by
    obtain ⟨kd, its, ps', rfl, d, _, c⟩ := S.K
    cases h with
    | zero => rw [c.2.1]
    | succ n => exact absurd rfl (c.2.2.ne c.2.1)
  subst ps1
  have one : (1 : Int) ∈ tk := (S.F.same R.F).2 1 (by simp)
  have hs : (encB 1 [it]).length ≤ 256 := by
    rw [encB_sz]
    show 2 + ((encI it).length + 0) ≤ 256
    have h : (encI it).length ≤ 69 := hsm
    omega
  have h0 : (encB 1 []).length ≤ 256 := Nat.le_of_ble_eq_true rfl
  have nt1 : ¬ tooL 1 [it] := by unfold tooL; rw [if_neg (by decide)]; omega
  have d0 : Dec D (gpg s 1) 1 [] := by rw [z]; exact .inr ⟨rfl, rfl, rfl⟩
  have F1 := S.F.write (n := 1) (by simp) (pad_len hs)
  have F2 := F1.write (n := 1) (by simp) (pad_len h0)
  have dl := S.F.dl
  have dl1 := F1.dl
  have okI : ∀ x ∈ [it], ItOk D 1 x := fun x hx => by rw [List.mem_singleton.mp hx]; exact hit
  have d1 : Dec D (gpg (pwr 1 (pad (encB 1 [it])) s) 1) 1 [it] := by rw [gpg_eq]; exact .inl ⟨rfl, .inl rfl, okI, hs⟩
  have d2 : Dec D (gpg (pwr 1 (pad (encB 1 [])) (pwr 1 (pad (encB 1 [it])) s)) 1) 1 [] := by rw [gpg_eq]; exact .inl ⟨rfl, .inl rfl, fun _ z => by simp at z, h0⟩
  have e0 : delI it.a it.b [it] = [] := List.filter_cons_of_neg (by simp)
  have eM := R.at one d0
  have R2 := (R.put one (.inl rfl) okI hs).put one (.inl rfl) (fun _ z => by simp at z) h0
  rw [mput2, mput_self eM] at R2
  have R3 := (R2.le (j := i2 + 2) (by omega)).szu (z := M.sz) (by have := R.sz; omega)
  refine ⟨.leaf d0, ?_, .leaf d1, ?_, d2, ⟨i + 2, i2 + 2, m, f, 0, [1], [], m', f', tk, ⟨F2, ⟨1, [], [], rfl, d2, by unfold tooL; decide, rfl, rfl, rfl, .nil, fun e he => by simp at he⟩, fun e he => by simp at he⟩, R3, by omega, by omega, by omega, h4, h5⟩, by rw [gpg_eq]; exact enc_nz (by decide)⟩
  · have e1 : insI it [] = [it] := rfl
    rw [e1]
    exact .fit ⟨fun x hx => (okI x hx).kd (by omega), .inl rfl, (by show (1 : Nat) ≤ 900; decide), by omega, S.F.z 0⟩ nt1 hs
  · rw [e0]
    have st := Dl.stop (D := D) (path := []) (n := 1) (kd := 1) (its := []) (s := pwr 1 (pad (encB 1 [it])) s) (fun _ => rfl) ⟨fun x hx => by simp at hx, .inl rfl, by decide, by omega, F1.z 0⟩
    rw [if_pos rfl] at st
    exact st h0
theorem X17.new {D : Nat} {s : PgS} (z : ∀ n, gpg s n = zeros) (d : s.dir = []) : (palloc (cnth s)).2 = 1 ∧ X17 D 0 0 (palloc (cnth s)).1 ⟨fun x => if x = 1 then some (1, []) else none, 2, [], 1⟩ [] := by
  obtain ⟨F, po⟩ := FR.zero z d
  obtain ⟨ea, A, _⟩ := F.alloc (by decide)
  obtain ⟨p1, gz⟩ := Pot.alloc F (by decide)
  have e1 : (palloc (cnth s)).2 = 1 := ea
  rw [e1] at gz
  have dz : Dec D (gpg (palloc (cnth s)).1 1) 1 [] := by rw [gz]; exact .inr ⟨rfl, rfl, rfl⟩
  have K : KT D (gpg (palloc (cnth s)).1) 0 1 0 Top [1] [] := ⟨1, [], [], rfl, dz, by unfold tooL; decide, rfl, rfl, rfl, .nil, fun e he => by simp at he⟩
  have R : R17 D 2 (palloc (cnth s)).1 (alM 1 []) [] [1] ⟨fun x => if x = 1 then some (1, []) else none, 2, [], 1⟩ := by
    refine ⟨A, rfl, rfl, fun n kd its e => ?_, fun n hn => ?_, by show 1 ≤ 4 * 2; decide, fun n hn => by simp at hn⟩
    · have e : (if n = 1 then some ((1 : Int), ([] : List Itm)) else none) = some (kd, its) := e
      by_cases q : n = 1
      · rw [if_pos q] at e
        cases e
        rw [q]
        exact ⟨by simp, dz⟩
      · rw [if_neg q] at e; cases e
    · rw [List.mem_singleton.mp hn]
      exact ⟨(1, []), (by show (if (1 : Int) = 1 then some ((1 : Int), ([] : List Itm)) else none) = _; exact if_pos rfl)⟩
  exact ⟨e1, 2, 2, alM 1 [], [], 0, [1], [], alM 1 [], [], [1], ⟨A, K, fun e he => by simp at he⟩, R, by decide, by decide, by decide, .refl _, by decide⟩
section
variable {P : Program} {w : World} {K : PySem.W.Frag} {mg : Str → Option Value} {base : Heap} {c : Cl}
theorem ok_law {f : Addr} {fd : FuncData} (F : Fun K "law" "law" s_law f fd) (T : Txt K mg c) : FnOk P w K mg base CX0 181 f fd ["_law_script"] (sp_law K) := by
  have tc_Device := T.cl_Device; have tn_Device_pages := T.n_Device_pages; have tn_Device_page_writes := T.n_Device_page_writes; have tn_Device_durable_log := T.n_Device_durable_log; have tn_Device_log_steps := T.n_Device_log_steps; have tn_Device_done := T.n_Device_done; have tn_Device_most := T.n_Device_most
  have tc_Pager := T.cl_Pager; have tn_Pager_device := T.n_Pager_device; have tn_Pager_committed := T.n_Pager_committed; have tn_Pager_dirty := T.n_Pager_dirty
  have tc_KeyTree := T.cl_KeyTree; have tn_KeyTree_pager := T.n_KeyTree_pager; have tn_KeyTree_root := T.n_KeyTree_root; have tn_KeyTree_dimensions := T.n_KeyTree_dimensions
  refine F.ok sc_law ?_ (fun cdv A outer s H vs Q E hr h => ?_)
  · rintro vs H Q E ⟨_, _, rfl, _⟩
    rfl
  · obtain ⟨sc, ns, rfl, hsc, hlen, k⟩ := h
    refine ⟨_, (pss_cons (ps_set (i := 1) sc_law.nd rfl (Or.inl rfl) (pe_lst (pa_cons pe_int (pa_cons pe_int pa_nil))))
      (pss_cons (ps_set (i := 2) sc_law.nd rfl (Or.inl rfl) (pe_op op_add pe_int (pe_g (ok__law_draw T) (hr.mono (by decide)) pass0S (pa_cons (pv 1) (pa_cons (pv 0) (pa_cons pe_int pa_nil))))))
      (pss_cons (ps_set (i := 3) sc_law.nd rfl (Or.inl rfl) (pe_g (ok__law_spanned T) (hr.mono (by decide)) pass0S (pa_cons (pv 1) (pa_cons (pv 0) pa_nil))))
      (pss_cons (ps_set (i := 4) sc_law.nd rfl (Or.inl rfl) (pe_gc (mk_Pager T) (hr.mono (by decide)) passN (pa_cons (pe_gc0 (mk_Device T) (hr.mono (by decide)) pass0S) pa_nil)))
      (pss_cons (ps_set (i := 5) sc_law.nd rfl (Or.inl rfl) (pe_gc (mk_KeyTree T) (hr.mono (by decide)) pass0S (pa_cons (pv 4) (pa_cons (pe_gm0 T.cl_Pager (ok_Pager_allocate T) (pv 4) (hr.mono (by decide)) pass0S) (pa_cons (pv 2) pa_nil)))))
      (pss_cons (ps_set (i := 6) sc_law.nd rfl (Or.inl rfl) (pe_disp (pps_cons pe_str (pe_disp (pps_cons pe_int (pe_tup (pa_cons pe_int (pa_cons (pe_lst pa_nil) pa_nil))) pps_nil) (by rfl) (by rfl) (fun z => by cases z) (by decide)) (pps_cons pe_str pe_int (pps_cons pe_str (pe_lst pa_nil) pps_nil))) (by rfl) (by rfl) (fun z => by cases z) (by decide)))
      (pss_cons (ps_set (i := 7) sc_law.nd rfl (Or.inl rfl) (pe_lst pa_nil))
      (C8.pss_cut (ps_if (pt_cmpR op_eq (pe_g (ok__law_draw T) (hr.mono (by decide)) pass0S (pa_cons (pv 1) (pa_cons (pv 0) (pa_cons pe_int pa_nil)))) pe_int (nomark _)) (pss_cons (ps_set (i := 8) sc_law.nd rfl (Or.inl rfl) (pe_op op_add pe_int (pe_g (ok__law_draw T) (hr.mono (by decide)) pass0S (pa_cons (pv 1) (pa_cons (pv 0) (pa_cons pe_int pa_nil))))))
      (pss_one (ps_for PassesOwn.never rfl (pi_range1 (by rfl) T.z_range (pa_cons pe_int pa_nil)) (pg_name (i := 9) sc_law.nd rfl (Or.inl rfl)) (pss_cons (ps_set (i := 10) sc_law.nd rfl (Or.inl rfl) (pe_g (ok__law_point T) (hr.mono (by decide)) pass0S (pa_cons (pv 1) (pa_cons (pv 0) (pa_cons (pv 2) (pa_cons (pv 3) pa_nil))))))
      (pss_one (ps_expr (pe_g (ok__law_inserted T) (hr.mono (by decide)) pass0S (pa_cons (pv 5) (pa_cons (pv 6) (pa_cons (pv 7) (pa_cons (pe_tup (pa_cons (pe_op op_add (pe_op op_mod (pe_op op_mul (pv 9) (pv 8)) pe_int) pe_int) (pa_cons pe_int (pa_cons pe_int (pa_cons (pv 10) (pa_cons (pe_op (r := rRepTT K) op_repTT (pe_tup (pa_cons (pv 9) pa_nil)) pe_int) pa_nil)))))) pa_nil))))))))))) pss_nil)
      (C8.pss_cut (ps_if (pt_cmpR (r := rEqD K) (op_eqD hr.units) (pe_gm T.cl_Pager (ok_Pager_read T) (pv 4) (hr.mono (by decide)) pass0S (pa_cons pe_int pa_nil)) (pe_op op_rep (pe_lst (pa_cons pe_int pa_nil)) pe_int) (nomark _)) (pss_cons (ps_expr (pe_gm T.cl_KeyTree (ok_KeyTree_insert T) (pv 5) (hr.mono (by decide)) pass0S (pa_cons (pe_tup (pa_cons pe_int (pa_cons pe_int (pa_cons pe_int (pa_cons (pe_op (r := rRepTT K) op_repTT (pe_tup (pa_cons pe_int pa_nil)) (pv 2)) (pa_cons (pe_tup pa_nil) pa_nil)))))) pa_nil)))
      (pss_one (ps_expr (pe_gm T.cl_KeyTree (ok_KeyTree_delete T) (pv 5) (hr.mono (by decide)) pass0S (pa_cons pe_int (pa_cons pe_int pa_nil)))))) pss_nil)
      (pss_cons (ps_for PassesOwn.never rfl (pi_range1 (by rfl) T.z_range (pa_cons (pe_g (ok__law_draw T) (hr.mono (by decide)) pass0S (pa_cons (pv 1) (pa_cons (pv 0) (pa_cons pe_int pa_nil)))) pa_nil)) (pg_name (i := 11) sc_law.nd rfl (Or.inl rfl)) (pss_cons (ps_expr (pe_g (ok__law_step T) (hr.mono (by decide)) pass0S (pa_cons (pv 1) (pa_cons (pv 0) (pa_cons (pv 5) (pa_cons (pv 6) (pa_cons (pv 7) (pa_cons (pv 2) (pa_cons (pv 3) pa_nil)))))))))
      (pss_one (ps_if (pt_not (pt_val (pe_g (ok__law_same T) (hr.mono (by decide)) pass0S (pa_cons (pv 4) (pa_cons (pv 6) (pa_cons (pe_cmpR op_eq (pe_op op_mod (pv 11) pe_int) pe_int (nomark _)) pa_nil)))))) (pss_one (ps_ret pe_bl)) pss_nil))))
      (C8.pss_cut (ps_if (pt_cmpR op_eq (pe_g (ok__law_draw T) (hr.mono (by decide)) pass0S (pa_cons (pv 1) (pa_cons (pv 0) (pa_cons pe_int pa_nil)))) pe_int (nomark _)) (pss_one (ps_for PassesOwn.never rfl (pi_listK rfl (pv 7)) (pg_name (i := 12) sc_law.nd rfl (Or.inl rfl)) (pss_cons (ps_expr (pe_g (ok__law_deleted T) (hr.mono (by decide)) pass0S (pa_cons (pv 6) (pa_cons (pe_slice (r := rSlA K) sl_tupA (pv 12) po_none (po_some pe_int)) pa_nil))))
      (pss_one (ps_expr (pe_gm T.cl_KeyTree (ok_KeyTree_delete T) (pv 5) (hr.mono (by decide)) pass0S (pa_cons (pe_ix (r := rIxT K) ix_tup (pv 12) pe_int (fun _ _ => rfl)) (pa_cons (pe_ix (r := rIxT K) ix_tup (pv 12) pe_int (fun _ _ => rfl)) pa_nil)))))))) pss_nil)
      (pss_one (ps_ret (pe_g (ok__law_same T) (hr.mono (by decide)) pass0S (pa_cons (pv 4) (pa_cons (pv 6) (pa_cons pe_bl pa_nil))))))))))))))))), ?_⟩
    walk_at "cx"
    walk_at "rd"
    refine x_newL fun st H1 hst k1 e1 => ?_
    have dr1 : Dr K H1 st sc := ⟨0, 0, ns, by decide, by decide, e1, hlen, hsc.kp k1⟩
    walk_at "rd"
    refine ⟨st, sc, 8, rfl, by decide, by decide, dr1, fun d1 H2 d10 d11 dr2 k2 => ?_⟩
    obtain ⟨D, eD⟩ : ∃ D : Nat, 1 + d1 = (D : Int) := ⟨(1 + d1).toNat, by omega⟩
    walk_at "rd"
    rw [eD]
    refine ⟨st, sc, rfl, dr2, fun sp H3 sp0 sp1 dr3 k3 => ?_⟩
    have hD : D ≤ 8 := by omega
    have hD1 : 1 ≤ D := by omega
    walk_at "rd"
    intro q dx hq hdx nd
    have km : Kp F0 H3 (upd (upd H3 dx (.own q)) q (.ins c.Device dx [])) := (Kp.new hdx).trans (Kp.new (by rw [upd_ne nd.symm]; exact hq)) fun _ z => z.elim
    refine ⟨q, dx, rfl, upd_same, fun H4 Od hD4 k4 o4 => ⟨rfl, ?_⟩⟩
    have nsq : st ≠ q := by
      obtain ⟨_, h⟩ := dr3.trk
      exact ne_of_none h hq
    have k34 : Kp F0 H3 H4 := km.trans k4 fun x z => .inr (by rw [z]; exact hq)
    have dr4 := dr3.kp k34 id
    have sod : ¬ Od st := fun z => by
      obtain ⟨_, h⟩ := dr3.trk
      rcases o4 st z with e | e
      · exact nsq e
      · rw [km.get h id] at e; cases e
    walk_at "rd"
    intro p dy hp hdy ndy
    have km3 : Kp F0 H4 (upd (upd H4 dy (.own p)) p (.ins c.Pager dy [])) := (Kp.new hdy).trans (Kp.new (by rw [upd_ne ndy.symm]; exact hp)) fun _ z => z.elim
    have i1 : pini1 [] ⟨[], [], [], [], 0, none⟩ = (pini0 [] ⟨[], [], [], [], 0, none⟩, true) := rfl
    have i2 : pinit [] ⟨[], [], [], [], 0, none⟩ = (cnth (pini0 [] ⟨[], [], [], [], 0, none⟩), true) := rfl
    have S0 : PSt 0 0 (pini0 [] ⟨[], [], [], [], 0, none⟩) [] := ⟨rfl, rfl, rfl, rfl, fun g z => (by cases z), fun n => rfl, fun q z => (by cases z), fun q z => (by cases z), fun q z => (by cases z), Nat.le_refl _, Nat.le_refl _, Nat.le_refl _, Nat.le_refl _⟩
    have Z0 : ∀ n, gpg (pini0 [] ⟨[], [], [], [], 0, none⟩) n = zeros := fun n => rfl
    have D0 : (pini0 [] ⟨[], [], [], [], 0, none⟩).dir = [] := rfl
    generalize pini0 [] ⟨[], [], [], [], 0, none⟩ = s0 at i1 i2 S0 Z0 D0
    have good0 : Good [] := ⟨Nat.zero_le _, fun q h => by cases h⟩
    refine ⟨p, dy, q, Od, _, [], [], 0, rfl, upd_same, hD4.same km3, hD4.fresh hp, rfl, by decide, fun g z => (by cases z), good0, by decide, (by first | exact (S0.pgz (by decide) (by decide)).ck | exact ⟨by decide, by decide, by decide, fun q z => (by cases z), fun q z => (by cases z), by decide, fun q z => (by cases z)⟩), fun _ => by rw [i1]; exact S0.z 0, fun H5 O Od5 P5 t5 => ?_⟩
    rw [i2] at P5 ⊢
    rw [if_pos rfl]
    refine ⟨rfl, ?_⟩
    have sop : st ≠ p := by
      obtain ⟨_, h⟩ := dr4.trk
      exact ne_of_none h hp
    have ks5 := dr4.kp km3 id
    have dr5 := ks5.kp t5.kp fun z => z.elim sop sod
    have so5 : ¬ O st := by
      obtain ⟨_, h⟩ := ks5.trk
      exact t5.kp0 h fun z => z.elim sop sod
    obtain ⟨FR0, po0⟩ := FR.zero Z0 D0
    have dl0 := FR0.dl
    obtain ⟨⟨dz, b1, b2, y1, y2, DP⟩, _⟩ := id P5
    have hop := DP.o
    walk_at "rd"
    refine ⟨p, q, O, Od5, cnth s0, rfl, P5, by omega, FR0.z 0, fun H6 O6 P6 t6 => ?_⟩
    obtain ⟨ea, XX⟩ := X17.new (D := D) Z0 D0
    rw [ea]
    have dr6 := dr5.kp t6.kp so5
    have so6 : ¬ O6 st := by
      obtain ⟨_, h⟩ := dr5.trk
      exact t6.kp0 h so5
    generalize (palloc (cnth s0)).1 = s1 at P6 XX
    walk_at "rd"
    intro kt dk hkt hdk ndk
    have kmk : Kp F0 H6 (upd (upd H6 dk (.own kt)) kt (.ins c.KeyTree dk [])) := (Kp.new hdk).trans (Kp.new (by rw [upd_ne ndk.symm]; exact hkt)) fun _ z => z.elim
    refine ⟨kt, p, dk, 1, (D : Int), rfl, upd_same, fun H7 ka7 k7 => ⟨rfl, ?_⟩⟩
    have k67 : Kp F0 H6 H7 := kmk.trans k7 fun x z => .inr (by rw [z]; exact hkt)
    have nkt : ¬ O6 kt := P6.fresh hkt
    have P7 := P6.same k67
    have dr7 := dr6.kp k67 id
    walk_at "rd"
    intro m hm
    have kd : Kp F0 H7 (upd H7 m (.dK [])) := Kp.new hm
    have m0 : (upd H7 m (.dK []) : Hp) m = some (.dK []) := upd_same
    generalize upd H7 m (.dK []) = H8 at kd m0 ⊢
    refine x_pc ?_
    walk_at "rd"
    intro b hb
    have kd1 : Kp F0 H8 (upd H8 b (.dK [])) := Kp.new hb
    have b0 : (upd H8 b (.dK []) : Hp) b = some (.dK []) := upd_same
    generalize upd H8 b (.dK []) = H9 at kd1 b0 ⊢
    refine x_pc ?_
    walk_at "rd"
    refine x_newL fun l H10 hl k10 e10 => ?_
    walk_at "rd"
    refine x_newT fun t H11 htt k11 e11 => ?_
    refine x_pn ?_
    have k911 : Kp F0 H9 H11 := k10.trans k11 fun _ z => z.elim
    refine ⟨k911.get b0 id, [(.inl 1, .ref t)], rfl, Nat.le_of_ble_eq_true rfl, ?_⟩
    rw [show mergeK [] [((.inl 1 : Key), V.ref t)] = [(.inl 1, .ref t)] by kernel_rfl]
    have b11 := k911.get b0 id
    have k12 : Kp (F1 b) H11 (upd H11 b (.dK [(.inl 1, .ref t)])) := Kp.put b11 id
    have e12 : (upd H11 b (.dK [(.inl 1, .ref t)]) : Hp) b = some (.dK [(.inl 1, .ref t)]) := upd_same
    generalize upd H11 b (.dK [(.inl 1, .ref t)]) = H12 at k12 e12 ⊢
    refine x_pc ?_
    walk_at "rd"
    refine x_pc ?_
    walk_at "rd"
    refine x_newL fun fl H13 hfl k13 e13 => ?_
    refine x_pn ?_
    have nmb : m ≠ b := ne_of_none m0 hb
    have m12 : H12 m = some (.dK []) := k12.get (k911.get (kd1.get m0 id) id) nmb
    have m13 := k13.get m12 id
    refine ⟨m13, RD_model (.ref b) (.int 2) (.ref fl), rfl, Nat.le_of_ble_eq_true rfl, ?_⟩
    rw [rm_model]
    have k14 : Kp (F1 m) H13 (upd H13 m (.dK (RD_model (.ref b) (.int 2) (.ref fl)))) := Kp.put m13 id
    have e14 : (upd H13 m (.dK (RD_model (.ref b) (.int 2) (.ref fl))) : Hp) m = some (.dK (RD_model (.ref b) (.int 2) (.ref fl))) := upd_same
    generalize upd H13 m (.dK (RD_model (.ref b) (.int 2) (.ref fl))) = H14 at k14 e14 ⊢
    have fm : H7 m = none := hm
    have fb : H7 b = none := kd.free hb id
    have k79 : Kp F0 H7 H9 := kd.trans kd1 fun _ z => z.elim
    have f_l : H7 l = none := k79.free hl id
    have k711 : Kp F0 H7 H11 := k79.trans k911 fun _ z => z.elim
    have f_fl : H7 fl = none := by
      have : H12 fl = none := hfl
      have nb : fl ≠ b := fun z => by rw [z, e12] at this; cases this
      have h11 : H11 fl = none := k12.free this nb
      exact k711.free h11 id
    have k714 : Kp F0 H7 H14 := fun x o hx _ => k14.get (k13.get (k12.get (k711.get hx id) (ne_of_none hx fb)) id) (ne_of_none hx fm)
    have nlb : l ≠ b := (ne_of_none b0 hl).symm
    have nlm : l ≠ m := (ne_of_none (kd1.get m0 id) hl).symm
    have eb14 : H14 b = some (.dK [(.inl 1, .ref t)]) := k14.get (k13.get e12 id) nmb.symm
    have el14 : H14 l = some (.lst []) := k14.get (k13.get (k12.get (k11.get e10 id) nlb) id) nlm
    have et14 : H14 t = some (.tup [.int 1, .ref l]) := k14.tup (k13.tup (k12.tup e11))
    have efl14 : H14 fl = some (.lst []) := k14.get e13 (fun z => by rw [z, m12] at hfl; cases hfl)
    have nlfl : l ≠ fl := fun z => by
      have := k12.get (k11.get e10 id) nlb
      rw [z, hfl] at this; cases this
    have M14 : MtAt K H14 m b fl (fun x => x = m ∨ x = b ∨ x = fl ∨ x = l) ⟨fun x => if x = 1 then some (1, []) else none, 2, [], 1⟩ := by
      refine ⟨⟨_, e14, eb14, efl14, fun n => ?_, Nat.le_refl _, nmb, .inl rfl, .inr (.inl rfl), .inr (.inr (.inl rfl))⟩, ?_⟩
      · by_cases q : n = 1
        · subst q
          show PgO K H14 (fun x => x = m ∨ x = b ∨ x = fl ∨ x = l) fl (valV [((.inl 1 : Key), V.ref t)] (.inl 1)) (if (1 : Int) = 1 then some (1, []) else none)
          rw [if_pos rfl, valV_pos rfl]
          exact ⟨t, l, [], rfl, et14, el14, .nil, .inr (.inr (.inr rfl)), nlfl⟩
        · show PgO K H14 (fun x => x = m ∨ x = b ∨ x = fl ∨ x = l) fl (valV [((.inl 1 : Key), V.ref t)] (.inl n)) (if n = 1 then some (1, []) else none)
          rw [if_neg q, valV_neg (fun z => q (Sum.inl.inj z).symm), valV_nil]
          trivial
      · rintro x (z | z | z | z)
        · exact ⟨_, by rw [z]; exact e14⟩
        · exact ⟨_, by rw [z]; exact eb14⟩
        · exact ⟨_, by rw [z]; exact efl14⟩
        · exact ⟨_, by rw [z]; exact el14⟩
    have ff : ∀ x, (x = m ∨ x = b ∨ x = fl ∨ x = l) → H7 x = none := by
      rintro x (z | z | z | z)
      · rw [z]; exact fm
      · rw [z]; exact fb
      · rw [z]; exact f_fl
      · rw [z]; exact f_l
    walk_at "rd"
    refine x_newL fun ml H15 hml k15 e15 => ?_
    have W15 : W17 c K H15 st sc kt p q m b fl ml D O6 Od5 (fun x => x = m ∨ x = b ∨ x = fl ∨ x = l) s1 ⟨fun x => if x = 1 then some (1, []) else none, 2, [], 1⟩ [] := by
      have P14 := P7.same k714
      have k715 : Kp F0 H7 H15 := k714.trans k15 fun _ z => z.elim
      obtain ⟨_, hs⟩ := (dr7.kp k714 id).trk
      obtain ⟨_, hs7⟩ := dr7.trk
      obtain ⟨_, hk7⟩ := ka7.o
      exact ⟨dr7.kp k715 id, ⟨ka7.kp k715 id, P7.same k715, nkt⟩, M14.same k15, ⟨[], e15, .nil⟩, so6, P14.fresh hml, fun z => (by have := ff st z; rw [hs7] at this; cases this), M14.fresh hml, fun z => (by have := ff kt z; rw [hk7] at this; cases this), fun x ox z => (by
        obtain ⟨o, ho⟩ := P7.2 x ox
        rw [ff x z] at ho; cases ho), ne_of_none hs hml⟩
    generalize (⟨fun x => if x = 1 then some (1, []) else none, 2, [], 1⟩ : MT) = M0 at XX W15
    walk_at "rd"
    refine x_cut (fun σ' H' => ∃ O O2 s M ms u8 u9 u10, σ' = [some (.ref sc), some (.ref st), some (.int (D : Nat)), some (.int sp), some (.ref p), some (.ref kt), some (.ref m), some (.ref ml), u8, u9, u10, none, none] ∧ W17 c K H' st sc kt p q m b fl ml D O Od5 O2 s M ms ∧ X17 D 90 90 s M ms) ?_ ?_
    · walk_at "rd"
      refine ⟨st, sc, 5, rfl, by decide, by decide, W15.dr, fun d9 H9 d90 d91 dr9 k9 => ?_⟩
      have W9 := W15.draw k9 dr9
      walk_at "rd"
      refine ite_dec (fun e => ?_) fun e => ?_
      · walk_at "rd"
        refine ⟨st, sc, 96, rfl, by decide, by decide, W9.dr, fun dA HA dA0 dA1 drA kA => ?_⟩
        have WA := W9.draw kA drA
        obtain ⟨S, eS⟩ : ∃ S : Nat, 1 + dA = (S : Int) := ⟨(1 + dA).toNat, by omega⟩
        walk_at "rd"
        rw [eS]
        have hS : 1 ≤ S ∧ S ≤ 96 := by omega
        refine wfor Wk.rng (fun i σ H' => ∃ O O2 s M ms u9 u10, σ = [some (.ref sc), some (.ref st), some (.int (D : Nat)), some (.int sp), some (.ref p), some (.ref kt), some (.ref m), some (.ref ml), some (.int (S : Nat)), u9, u10, none, none] ∧ W17 c K H' st sc kt p q m b fl ml D O Od5 O2 s M ms ∧ X17 D i i s M ms ∧ ∀ x ∈ ms, x.b = 1 ∧ ∃ j, j < i ∧ x.a = ((j * S % 97 : Nat) : Int) + 3)
          ⟨O6, _, s1, M0, [], none, none, rfl, WA, XX, fun x hx => by simp at hx⟩ (fun _ _ _ _ => trivial) ?_ ?_
        · rintro i x σ HB ex ⟨O, O2, s, M, ms, u9, u10, rfl, WB, XB, hms⟩
          obtain ⟨hi, rfl⟩ := rgl_at ex
          have hi' : i < 90 := hi
          have ok := XB.ok.1
          walk_at "rd"
          refine ⟨st, sc, (D : Int), sp, rfl, by omega, by omega, sp0, by omega, WB.dr, fun p1 HC pt lpt bpt ep1 drC kC => ?_⟩
          have WC := WB.draw kC drC
          walk_at "rd"
          refine x_I (.inl ⟨by omega, by omega⟩) ?_
          walk_at "rd"
          refine x_newT fun p2 HD hp2 kD eD' => ?_
          have WD := WC.pure kD
          walk_at "rd"
          refine x_rep1T (SqT.of eD') (by decide) (by decide) fun p3 HE kE eE => ?_
          have WE := WD.pure kE
          walk_at "rd"
          refine x_newT fun te HF hte kF eF => ?_
          have WF := WE.pure kF
          have epl : (List.replicate (40 : Int).toNat (V.int (0 + (i : Int)))) = (List.replicate 40 ((i : Int))).map V.int := by
            rw [List.map_replicate, Int.zero_add]; rfl
          rw [epl] at eE
          have ekey : (0 + (i : Int)) * (S : Int) % 97 + 3 = ((i * S % 97 : Nat) : Int) + 3 := by rw [Int.zero_add]; push_cast; rfl
          rw [ekey] at eF
          have kb : ((i * S % 97 : Nat) : Int) < 97 := by omega
          have hit : ItOk D 1 ⟨((i * S % 97 : Nat) : Int) + 3, 1, 0, some (pt, List.replicate 40 (i : Int))⟩ := ⟨(by show 0 ≤ ((i * S % 97 : Nat) : Int) + 3; omega), (by show ((i * S % 97 : Nat) : Int) + 3 < 256 ^ 4; omega), (by show (0 : Int) ≤ 1; decide), (by show (1 : Int) < 256 ^ 4; decide), (by show (0 : Int) ≤ 0; decide), (by show (0 : Int) < 256 ^ 4; decide), .inl ⟨rfl, pt, _, rfl, by omega, fun x hx => by have := bpt x hx; omega, fun x hx => by
            rw [List.mem_replicate] at hx; omega, by rw [List.length_replicate]; decide⟩⟩
          have hsm : SmI ⟨((i * S % 97 : Nat) : Int) + 3, 1, 0, some (pt, List.replicate 40 (i : Int))⟩ := by
            unfold SmI
            rw [encI_len]
            show 12 + (2 * pt.length + 1 + (List.replicate 40 (i : Int)).length) ≤ 69
            rw [List.length_replicate]; omega
          have hne : ∀ x ∈ ms, ky x ≠ ky ⟨((i * S % 97 : Nat) : Int) + 3, 1, 0, some (pt, List.replicate 40 (i : Int))⟩ := fun x hx e => by
            have h1 := ((ky_ab (ok x hx).rb hit.rb).mp e).1
            obtain ⟨_, j, hj, ej⟩ := hms x hx
            rw [ej] at h1
            have h1 : ((j * S % 97 : Nat) : Int) + 3 = ((i * S % 97 : Nat) : Int) + 3 := h1
            exact key97 hi' hj hS (by omega)
          have mdv : MdV K HF (.ref te) ⟨((i * S % 97 : Nat) : Int) + 3, 1, 0, some (pt, List.replicate 40 (i : Int))⟩ := ⟨te, p1, p3, pt, _, rfl, eF, rfl, SqT.of (kF.tup (kE.tup (kD.tup ep1))), kF.sqT eE⟩
          walk_at "rd"
          refine ⟨st, sc, kt, p, q, m, b, fl, ml, te, D, i, i, O, Od5, O2, s, M, ms, _, rfl, hD, WF, XB, by omega, by omega, mdv, hit, hsm, hne, fun HG O' O2' s' M' WG XG nzG => ?_⟩
          walk_at "rd"
          refine ⟨O', O2', s', M', _, _, _, rfl, WG, XG, fun x hx => ?_⟩
          rcases List.mem_append.mp hx with hx | hx
          · obtain ⟨h1, j, hj, ej⟩ := hms x hx
            exact ⟨h1, j, by omega, ej⟩
          · rw [List.mem_singleton.mp hx]
            exact ⟨rfl, i, by omega, rfl⟩
        · rintro σ HB ⟨O, O2, s, M, ms, u9, u10, rfl, WB, XB, _⟩
          exact ⟨O, O2, s, M, ms, _, _, _, rfl, WB, XB⟩
      · exact ⟨O6, _, s1, M0, [], _, _, _, rfl, W9, XX.le (by decide) (by decide)⟩
    · rintro σ' H16 ⟨O, O2, s, M, ms, u8, u9, u10, rfl, W16, X16⟩
      walk_at "rd"
      refine x_cut (fun σ' H' => ∃ O s, σ' = [some (.ref sc), some (.ref st), some (.int (D : Nat)), some (.int sp), some (.ref p), some (.ref kt), some (.ref m), some (.ref ml), u8, u9, u10, none, none] ∧ W17 c K H' st sc kt p q m b fl ml D O Od5 O2 s M ms ∧ X17 D 91 90 s M ms ∧ gpg s 1 ≠ zeros) ?_ ?_
      · obtain ⟨⟨dz, b1, b2', y1, y2, DPI⟩, _⟩ := id W16.kw.pg
        have hopI := DPI.o
        walk_at "rd"
        refine ⟨p, q, O, Od5, s, 1, rfl, W16.kw.pg, fun b17 H17 hb17 k17 e17 => ?_⟩
        walk_at "rd"
        refine x_newL fun z18 H18 hz18 k18 e18 => ?_
        walk_at "rd"
        refine x_rep e18 (by decide) (by decide) fun z19 H19 hz19 k19 e19 => ?_
        have k1619 : Kp F0 H16 H19 := (k17.trans k18 fun _ z => z.elim).trans k19 fun _ z => z.elim
        have e19' : H19 z19 = some (.lst (zeros.map V.int)) := by rw [e19]; unfold zeros; rw [List.map_replicate]; rfl
        have W19 := W16.pure k1619
        refine x_eqLI (SqL.of (k19.get (k18.get e17 id) id)) (SqL.of e19') ?_
        walk_at "rd"
        refine ite_dec (fun e => ?_) fun e => ?_
        · obtain ⟨dxk0, hok0⟩ := W19.kw.ka.o
          walk_at "rd"
          refine x_newT fun p2 HD hp2 kD eD' => ?_
          have WD := W19.pure kD
          walk_at "rd"
          refine x_rep1T (SqT.of eD') (by omega) (by omega) fun p3 HE kE eE => ?_
          have WE := WD.pure kE
          walk_at "rd"
          refine x_newT fun p4 HF hp4 kF eF => ?_
          have WF := WE.pure kF
          walk_at "rd"
          refine x_newT fun te HG hte kG eG => ?_
          have WG := WF.pure kG
          have epl : (List.replicate ((D : Nat) : Int).toNat (V.int 0)) = (List.replicate D (0 : Int)).map V.int := by
            rw [List.map_replicate, Int.toNat_natCast]
          rw [epl] at eE
          have hit : ItOk D 1 ⟨7, 7, 0, some (List.replicate D 0, [])⟩ := ⟨(by show (0 : Int) ≤ 7; decide), (by show (7 : Int) < 256 ^ 4; decide), (by show (0 : Int) ≤ 7; decide), (by show (7 : Int) < 256 ^ 4; decide), (by show (0 : Int) ≤ 0; decide), (by show (0 : Int) < 256 ^ 4; decide), .inl ⟨rfl, _, _, rfl, by rw [List.length_replicate], fun x hx => by (rw [List.mem_replicate] at hx; omega), fun x hx => by simp at hx, by decide⟩⟩
          have hsm : SmI ⟨7, 7, 0, some (List.replicate D 0, [])⟩ := by
            unfold SmI
            rw [encI_len]
            show 12 + (2 * (List.replicate D (0 : Int)).length + 1 + 0) ≤ 69
            rw [List.length_replicate]; omega
          obtain ⟨w1, sv, w2, dl, d2, X2, nz2⟩ := X16.touch hD e hit hsm (by decide)
          have itv : ItV K HG (.ref te) ⟨7, 7, 0, some (List.replicate D 0, [])⟩ := ⟨te, rfl, p3, p4, SqT.of eG, kG.sqT (kF.sqT eE), kG.sqT (SqT.of eF)⟩
          obtain ⟨dxk, hok⟩ := WG.kw.ka.o
          walk_at "rd"
          refine ⟨kt, p, q, 1, D, .ref te, _, 1, [], [], O, Od5, s, _, rfl, WG.kw, itv, w1, by decide, by decide, hD, sv, fun HH O' PH tH => ?_⟩
          have WH := WG.pager PH tH
          obtain ⟨dxk2, hok2⟩ := WH.kw.ka.o
          walk_at "rd"
          refine ⟨kt, p, q, 1, D, 0, 7, 7, 1, 1, [], _, [], O', Od5, _, _, _, rfl, WH.kw, w2, by decide, hD, (by show (1 : Nat) ≤ 800; decide), dl, d2, .done (fun z => absurd z.1 (by decide)), fun HI O'' PI tI => ?_⟩
          have WI := WH.pager PI tI
          walk_at "rd"
          exact ⟨O'', _, rfl, WI, X2, nz2⟩
        · walk_at "rd"
          exact ⟨O, s, rfl, W19, X16.le (by decide) (by decide), fun z => e z⟩
      · rintro σ' H17 ⟨O, s, rfl, W17', X17', nz17⟩
        walk_at "rd"
        refine ⟨st, sc, 41, rfl, by decide, by decide, W17'.dr, fun dn H18 dn0 dn1 dr18 k18 => ?_⟩
        have W18 := W17'.draw k18 dr18
        obtain ⟨N, rfl⟩ := Int.eq_ofNat_of_zero_le dn0
        walk_at "rd"
        have lN : (rgl 0 ((N : Nat) : Int).toNat).length = N := by rw [rgl_len]; omega
        refine wfor Wk.rng (fun i σ H' => ∃ fl O O2 s M ms u8 u9 u10 u11, σ = [some (.ref sc), some (.ref st), some (.int (D : Nat)), some (.int sp), some (.ref p), some (.ref kt), some (.ref m), some (.ref ml), u8, u9, u10, u11, none] ∧ W17 c K H' st sc kt p q m b fl ml D O Od5 O2 s M ms ∧ X17 D (91 + i) (90 + i) s M ms ∧ gpg s 1 ≠ zeros)
          ⟨fl, O, O2, s, M, ms, u8, u9, u10, none, rfl, W18, X17', nz17⟩ (fun _ _ _ _ => trivial) ?_ ?_
        · rintro i x σ HB ex ⟨fl, O, O2, s, M, ms, u8, u9, u10, u11, rfl, WB, XB, nzB⟩
          obtain ⟨hi, rfl⟩ := rgl_at ex
          have hi' : i < 40 := by omega
          walk_at "rd"
          refine ⟨st, sc, kt, p, q, m, b, fl, ml, D, 91 + i, 90 + i, sp, O, Od5, O2, s, M, ms, rfl, sp0, sp1, hD, WB, XB, nzB, by omega, by omega, fun HC fl' O' O2' s' M' ms' WC XC nzC => ?_⟩
          obtain ⟨i3, m3, f3, tk3, R3, hi3, hstr⟩ := XC.str nzC
          walk_at "rd"
          refine ⟨p, q, m, b, fl', O', Od5, O2', M', D, i3, s', m3, f3, tk3, _, rfl, WC.kw.pg, WC.mt, R3, by omega, hD, hstr, fun HD kD => ?_⟩
          walk_at "rd"
          exact ⟨fl', O', O2', s', M', ms', _, _, _, _, rfl, WC.pure kD, XC, nzC⟩
        · rintro σ HB ⟨fl, O, O2, s, M, ms, u8, u9, u10, u11, rfl, WB, XB, nzB⟩
          rw [lN] at XB
          have XB' := XB.le (t' := 131) (e' := 130) (by omega) (by omega)
          walk_at "rd"
          refine x_cut (fun σ' H' => ∃ fl O O2 s M ms ms' u8 u9 u10 u11 u12, σ' = [some (.ref sc), some (.ref st), some (.int (D : Nat)), some (.int sp), some (.ref p), some (.ref kt), some (.ref m), some (.ref ml), u8, u9, u10, u11, u12] ∧ W17 c K H' st sc kt p q m b fl ml D O Od5 O2 s M ms ∧ X17 D 261 130 s M ms' ∧ gpg s 1 ≠ zeros) ?_ ?_
          · walk_at "rd"
            refine ⟨st, sc, 4, rfl, by decide, by decide, WB.dr, fun dC HC dC0 dC1 drC kC => ?_⟩
            have WC := WB.draw kC drC
            walk_at "rd"
            refine ite_dec (fun e => ?_) fun e => ?_
            · obtain ⟨mvs, hmlC, pmC⟩ := WC.mv
              have lmC := pmC.length
              have lms := XB'.ok.2.2
              walk_at "rd"
              refine wfor (Wk.list (xs := mvs)) (fun i σ H' => ∃ fl O O2 s M u12, σ = [some (.ref sc), some (.ref st), some (.int (D : Nat)), some (.int sp), some (.ref p), some (.ref kt), some (.ref m), some (.ref ml), u8, u9, u10, u11, u12] ∧ W17 c K H' st sc kt p q m b fl ml D O Od5 O2 s M ms ∧ H' ml = some (.lst mvs) ∧ X17 D (131 + i) 130 s M (ms.drop i) ∧ gpg s 1 ≠ zeros)
                ⟨fl, O, O2, s, M, none, rfl, WC, hmlC, XB', nzB⟩ (fun i σ H' ⟨_, _, _, _, _, _, _, _, h, _⟩ => SqL.of h) ?_ ?_
              · rintro i v σ HD ex ⟨fl, O, O2, s, M, u12, rfl, WD, hmlD, XD, nzD⟩
                have hv : ∃ y, ms[i]? = some y ∧ MdV K HD v y := by
                  obtain ⟨mvs', hm', pm'⟩ := WD.mv
                  rw [hmlD] at hm'
                  cases hm'
                  exact pgt pm' ex
                obtain ⟨x, ey, hy⟩ := hv
                obtain ⟨tx, rr, rfl, htx, cut1, cut2, _⟩ := mdv_cut hy
                have li : i < ms.length := (List.getElem?_eq_some_iff.mp ey).1
                have e0 : (ms.drop i)[0]? = some x := by rw [List.getElem?_drop, Nat.add_zero]; exact ey
                obtain ⟨path, m0', e0', s1', mm, kd', its, s', l', i2, m', f', tk, way, lp, le0, dl, dec, lw, nz', R, hi2, Y, oke, lwl, lnd, l1, ll, hlt, hroot, fin⟩ := XD.del hD (by omega) (by omega) e0
                walk_at "rd"
                refine x_slT (SqT.of htx) fun t4 H4 k4 e4 => ?_
                rw [cut1] at e4
                have W4 := WD.pure k4
                walk_at "rd"
                refine ⟨m, b, fl, t4, O2, M, D, i2, x.a, x.b, m', m0', f', tk, l', s, s1', s', kd', path, e0', its, rfl, W4.mt, e4, R, Y.w, by omega, Y.nd, Y.tk, Y.hd, oke, dl, dec, lwl, lnd, l1, hlt, hroot, by omega, fun H5 O5 M5 i5 fl5 m5 f5 tk5 hM5 R5 li5 st5 => ?_⟩
                have W5 := W4.model hM5 st5
                have htx5 := st5.kp.tup (k4.tup htx)
                have X5 := fin M5 i5 m5 f5 tk5 R5 li5
                rw [List.eraseIdx_zero, List.tail_drop] at X5
                obtain ⟨dxk, hok⟩ := W5.kw.ka.o
                walk_at "rd"
                refine x_ixT (v := .int x.a) (SqT.of htx5) (atI_at 0 rfl rfl) ?_
                walk_at "rd"
                refine x_ixT (v := .int x.b) (SqT.of htx5) (atI_at 1 rfl rfl) ?_
                walk_at "rd"
                refine ⟨kt, p, q, 1, D, mm, x.a, x.b, m0', kd', path, e0', its, O, Od5, s, s1', s', rfl, W5.kw, way, by omega, hD, le0, dl, dec, lw, fun H6 O6' P6' t6' => ?_⟩
                walk_at "rd"
                have hml6 := t6'.kp.get (st5.kp.get (k4.get hmlD id) WD.m2) WD.mo
                exact ⟨fl5, O6', O5, s', M5, _, rfl, W5.pager P6' t6', hml6, X5, nz'⟩
              · rintro σ HD ⟨fl, O, O2, s, M, u12, rfl, WD, hmlD, XD, nzD⟩
                exact ⟨fl, O, O2, s, M, ms, _, _, _, _, _, _, rfl, WD, XD.le (by omega) (Nat.le_refl _), nzD⟩
            · exact ⟨fl, O, O2, s, M, ms, _, _, _, _, _, _, rfl, WC, XB'.le (by decide) (Nat.le_refl _), nzB⟩
          · rintro σ' HC ⟨fl, O, O2, s, M, ms, ms', u8, u9, u10, u11, u12, rfl, WC, XC, nzC⟩
            obtain ⟨i3, m3, f3, tk3, R3, hi3, hstr⟩ := XC.str nzC
            walk_at "rd"
            refine ⟨p, q, m, b, fl, O, Od5, O2, M, D, i3, s, m3, f3, tk3, true, rfl, WC.kw.pg, WC.mt, R3, by omega, hD, hstr, fun HD kD => ?_⟩
            exact k _
end
theorem all_mk {l : PySem.W.OpenLaw} {w : World} {K : PySem.W.Frag} {h : Heap} {mg : Str → Option Value} {fa : Addr} (X : K.In h) (G : h.Ns mainGlobals mg) (hfa : mg "law" = some (.ref fa))
    {C_Pager : Addr}
    {C_KeyTree : Addr}
    {C_Device : Addr}
    {C_PowerCut : Addr}
    {C_VaultError : Addr}
    {f1 : Addr} {od1 an1 : Option Addr} {sl1 : Array (Option Value)} {oc1 kV1 dc1 pm1 cd1 ct1 : Value}
    {f2 : Addr} {od2 an2 : Option Addr} {sl2 : Array (Option Value)} {oc2 kV2 dc2 pm2 cd2 ct2 : Value}
    {f3 : Addr} {od3 an3 : Option Addr} {sl3 : Array (Option Value)} {oc3 kV3 dc3 pm3 cd3 ct3 : Value}
    {f4 : Addr} {od4 an4 : Option Addr} {sl4 : Array (Option Value)} {oc4 kV4 dc4 pm4 cd4 ct4 : Value}
    {f5 : Addr} {od5 an5 : Option Addr} {sl5 : Array (Option Value)} {oc5 kV5 dc5 pm5 cd5 ct5 : Value}
    {f6 : Addr} {od6 an6 : Option Addr} {sl6 : Array (Option Value)} {oc6 kV6 dc6 pm6 cd6 ct6 : Value}
    {f7 : Addr} {od7 an7 : Option Addr} {sl7 : Array (Option Value)} {oc7 kV7 dc7 pm7 cd7 ct7 : Value}
    {f8 : Addr} {od8 an8 : Option Addr} {sl8 : Array (Option Value)} {oc8 kV8 dc8 pm8 cd8 ct8 : Value}
    {f9 : Addr} {od9 an9 : Option Addr} {sl9 : Array (Option Value)} {oc9 kV9 dc9 pm9 cd9 ct9 : Value}
    {f10 : Addr} {od10 an10 : Option Addr} {sl10 : Array (Option Value)} {oc10 kV10 dc10 pm10 cd10 ct10 : Value}
    {f11 : Addr} {od11 an11 : Option Addr} {sl11 : Array (Option Value)} {oc11 kV11 dc11 pm11 cd11 ct11 : Value}
    {f12 : Addr} {od12 an12 : Option Addr} {sl12 : Array (Option Value)} {oc12 kV12 dc12 pm12 cd12 ct12 : Value}
    {f13 : Addr} {od13 an13 : Option Addr} {sl13 : Array (Option Value)} {oc13 kV13 dc13 pm13 cd13 ct13 : Value}
    {f14 : Addr} {od14 an14 : Option Addr} {sl14 : Array (Option Value)} {oc14 kV14 dc14 pm14 cd14 ct14 : Value}
    {f15 : Addr} {od15 an15 : Option Addr} {sl15 : Array (Option Value)} {oc15 kV15 dc15 pm15 cd15 ct15 : Value}
    {f16 : Addr} {od16 an16 : Option Addr} {sl16 : Array (Option Value)} {oc16 kV16 dc16 pm16 cd16 ct16 : Value}
    {f17 : Addr} {od17 an17 : Option Addr} {sl17 : Array (Option Value)} {oc17 kV17 dc17 pm17 cd17 ct17 : Value}
    {f18 : Addr} {od18 an18 : Option Addr} {sl18 : Array (Option Value)} {oc18 kV18 dc18 pm18 cd18 ct18 : Value}
    {f19 : Addr} {od19 an19 : Option Addr} {sl19 : Array (Option Value)} {oc19 kV19 dc19 pm19 cd19 ct19 : Value}
    {f20 : Addr} {od20 an20 : Option Addr} {sl20 : Array (Option Value)} {oc20 kV20 dc20 pm20 cd20 ct20 : Value}
    {f21 : Addr} {od21 an21 : Option Addr} {sl21 : Array (Option Value)} {oc21 kV21 dc21 pm21 cd21 ct21 : Value}
    {f22 : Addr} {od22 an22 : Option Addr} {sl22 : Array (Option Value)} {oc22 kV22 dc22 pm22 cd22 ct22 : Value}
    {f23 : Addr} {od23 an23 : Option Addr} {sl23 : Array (Option Value)} {oc23 kV23 dc23 pm23 cd23 ct23 : Value}
    {f24 : Addr} {od24 an24 : Option Addr} {sl24 : Array (Option Value)} {oc24 kV24 dc24 pm24 cd24 ct24 : Value}
    {f25 : Addr} {od25 an25 : Option Addr} {sl25 : Array (Option Value)} {oc25 kV25 dc25 pm25 cd25 ct25 : Value}
    {f26 : Addr} {od26 an26 : Option Addr} {sl26 : Array (Option Value)} {oc26 kV26 dc26 pm26 cd26 ct26 : Value}
    {f27 : Addr} {od27 an27 : Option Addr} {sl27 : Array (Option Value)} {oc27 kV27 dc27 pm27 cd27 ct27 : Value}
    {f28 : Addr} {od28 an28 : Option Addr} {sl28 : Array (Option Value)} {oc28 kV28 dc28 pm28 cd28 ct28 : Value}
    {f29 : Addr} {od29 an29 : Option Addr} {sl29 : Array (Option Value)} {oc29 kV29 dc29 pm29 cd29 ct29 : Value}
    {f30 : Addr} {od30 an30 : Option Addr} {sl30 : Array (Option Value)} {oc30 kV30 dc30 pm30 cd30 ct30 : Value}
    {f31 : Addr} {od31 an31 : Option Addr} {sl31 : Array (Option Value)} {oc31 kV31 dc31 pm31 cd31 ct31 : Value}
    {f32 : Addr} {od32 an32 : Option Addr} {sl32 : Array (Option Value)} {oc32 kV32 dc32 pm32 cd32 ct32 : Value}
    {f33 : Addr} {od33 an33 : Option Addr} {sl33 : Array (Option Value)} {oc33 kV33 dc33 pm33 cd33 ct33 : Value}
    {f34 : Addr} {od34 an34 : Option Addr} {sl34 : Array (Option Value)} {oc34 kV34 dc34 pm34 cd34 ct34 : Value}
    {f35 : Addr} {od35 an35 : Option Addr} {sl35 : Array (Option Value)} {oc35 kV35 dc35 pm35 cd35 ct35 : Value}
    {f36 : Addr} {od36 an36 : Option Addr} {sl36 : Array (Option Value)} {oc36 kV36 dc36 pm36 cd36 ct36 : Value}
    {f37 : Addr} {od37 an37 : Option Addr} {sl37 : Array (Option Value)} {oc37 kV37 dc37 pm37 cd37 ct37 : Value}
    {f38 : Addr} {od38 an38 : Option Addr} {sl38 : Array (Option Value)} {oc38 kV38 dc38 pm38 cd38 ct38 : Value}
    {f39 : Addr} {od39 an39 : Option Addr} {sl39 : Array (Option Value)} {oc39 kV39 dc39 pm39 cd39 ct39 : Value}
    {f40 : Addr} {od40 an40 : Option Addr} {sl40 : Array (Option Value)} {oc40 kV40 dc40 pm40 cd40 ct40 : Value}
    {f41 : Addr} {od41 an41 : Option Addr} {sl41 : Array (Option Value)} {oc41 kV41 dc41 pm41 cd41 ct41 : Value}
    {f42 : Addr} {od42 an42 : Option Addr} {sl42 : Array (Option Value)} {oc42 kV42 dc42 pm42 cd42 ct42 : Value}
    {f43 : Addr} {od43 an43 : Option Addr} {sl43 : Array (Option Value)} {oc43 kV43 dc43 pm43 cd43 ct43 : Value}
    {f44 : Addr} {od44 an44 : Option Addr} {sl44 : Array (Option Value)} {oc44 kV44 dc44 pm44 cd44 ct44 : Value}
    {f45 : Addr} {od45 an45 : Option Addr} {sl45 : Array (Option Value)} {oc45 kV45 dc45 pm45 cd45 ct45 : Value}
    {f46 : Addr} {od46 an46 : Option Addr} {sl46 : Array (Option Value)} {oc46 kV46 dc46 pm46 cd46 ct46 : Value}
    {f47 : Addr} {od47 an47 : Option Addr} {sl47 : Array (Option Value)} {oc47 kV47 dc47 pm47 cd47 ct47 : Value}
    {f48 : Addr} {od48 an48 : Option Addr} {sl48 : Array (Option Value)} {oc48 kV48 dc48 pm48 cd48 ct48 : Value}
    {f49 : Addr} {od49 an49 : Option Addr} {sl49 : Array (Option Value)} {oc49 kV49 dc49 pm49 cd49 ct49 : Value}
    {f50 : Addr} {od50 an50 : Option Addr} {sl50 : Array (Option Value)} {oc50 kV50 dc50 pm50 cd50 ct50 : Value}
    {f51 : Addr} {od51 an51 : Option Addr} {sl51 : Array (Option Value)} {oc51 kV51 dc51 pm51 cd51 ct51 : Value}
    {f52 : Addr} {od52 an52 : Option Addr} {sl52 : Array (Option Value)} {oc52 kV52 dc52 pm52 cd52 ct52 : Value}
    {f53 : Addr} {od53 an53 : Option Addr} {sl53 : Array (Option Value)} {oc53 kV53 dc53 pm53 cd53 ct53 : Value}
    {f54 : Addr} {od54 an54 : Option Addr} {sl54 : Array (Option Value)} {oc54 kV54 dc54 pm54 cd54 ct54 : Value}
    {f55 : Addr} {od55 an55 : Option Addr} {sl55 : Array (Option Value)} {oc55 kV55 dc55 pm55 cd55 ct55 : Value}
    {f56 : Addr} {od56 an56 : Option Addr} {sl56 : Array (Option Value)} {oc56 kV56 dc56 pm56 cd56 ct56 : Value}
    {f57 : Addr} {od57 an57 : Option Addr} {sl57 : Array (Option Value)} {oc57 kV57 dc57 pm57 cd57 ct57 : Value}
    {f58 : Addr} {od58 an58 : Option Addr} {sl58 : Array (Option Value)} {oc58 kV58 dc58 pm58 cd58 ct58 : Value}
    {f59 : Addr} {od59 an59 : Option Addr} {sl59 : Array (Option Value)} {oc59 kV59 dc59 pm59 cd59 ct59 : Value}
    {f60 : Addr} {od60 an60 : Option Addr} {sl60 : Array (Option Value)} {oc60 kV60 dc60 pm60 cd60 ct60 : Value}
    {f61 : Addr} {od61 an61 : Option Addr} {sl61 : Array (Option Value)} {oc61 kV61 dc61 pm61 cd61 ct61 : Value}
    {f62 : Addr} {od62 an62 : Option Addr} {sl62 : Array (Option Value)} {oc62 kV62 dc62 pm62 cd62 ct62 : Value}
    {f63 : Addr} {od63 an63 : Option Addr} {sl63 : Array (Option Value)} {oc63 kV63 dc63 pm63 cd63 ct63 : Value}
    {f64 : Addr} {od64 an64 : Option Addr} {sl64 : Array (Option Value)} {oc64 kV64 dc64 pm64 cd64 ct64 : Value}
    {f65 : Addr} {od65 an65 : Option Addr} {sl65 : Array (Option Value)} {oc65 kV65 dc65 pm65 cd65 ct65 : Value}
    {f66 : Addr} {od66 an66 : Option Addr} {sl66 : Array (Option Value)} {oc66 kV66 dc66 pm66 cd66 ct66 : Value}
    {f67 : Addr} {od67 an67 : Option Addr} {sl67 : Array (Option Value)} {oc67 kV67 dc67 pm67 cd67 ct67 : Value}
    {f68 : Addr} {od68 an68 : Option Addr} {sl68 : Array (Option Value)} {oc68 kV68 dc68 pm68 cd68 ct68 : Value}
    {f69 : Addr} {od69 an69 : Option Addr} {sl69 : Array (Option Value)} {oc69 kV69 dc69 pm69 cd69 ct69 : Value}
    {f70 : Addr} {od70 an70 : Option Addr} {sl70 : Array (Option Value)} {oc70 kV70 dc70 pm70 cd70 ct70 : Value}
    {f71 : Addr} {od71 an71 : Option Addr} {sl71 : Array (Option Value)} {oc71 kV71 dc71 pm71 cd71 ct71 : Value}
    {t_PAGE_SIZE : Tok}
    {t_OFFSET : Tok}
    {t_LEAF : Tok}
    {t_INNER : Tok}
    {t_MOST_CHILDREN : Tok}
    {t_CHILD_SIZE : Tok}
    {t_NUMBER_SIZE : Tok}
    {t_FIELD_SIZE : Tok}
    {t_PAGES : Tok}
    {t_FREE : Tok}
    (aC_VaultError : PySem.W.nsIn K mainGlobals "VaultError" = some (some (.ref C_VaultError)))
    (aC_PowerCut : PySem.W.nsIn K mainGlobals "PowerCut" = some (some (.ref C_PowerCut)))
    (aC_Device : PySem.W.nsIn K mainGlobals "Device" = some (some (.ref C_Device)))
    (aC_KeyTree : PySem.W.nsIn K mainGlobals "KeyTree" = some (some (.ref C_KeyTree)))
    (aC_Pager : PySem.W.nsIn K mainGlobals "Pager" = some (some (.ref C_Pager)))
    (a1 : PySem.W.nsIn K mainGlobals "_wall" = some (some (.ref f1)))
    (l1 : K.lookup f1 = some ⟨oc1, od1, .func (PySem.W.fnOf "_wall" "_wall" (defArgs s__wall) (defBody s__wall) (defScope s__wall) .none kV1 dc1 pm1 an1 cd1 ct1), sl1⟩)
    (c1 : PySem.W.codeIn K cd1 "_wall" = true)
    (k1 : PySem.W.keepIn K (.ref f1) = true)
    (a2 : PySem.W.findIn K (.ref C_Device) "__init__" = some (some (.ref f2)))
    (i2 : PySem.W.isFn K (.ref f2) = true)
    (l2 : K.lookup f2 = some ⟨oc2, od2, .func (PySem.W.fnOf "__init__" "Device.__init__" (defArgs s_Device___init__) (defBody s_Device___init__) (defScope s_Device___init__) .none kV2 dc2 pm2 an2 cd2 ct2), sl2⟩)
    (c2 : PySem.W.codeIn K cd2 "Device.__init__" = true)
    (k2 : PySem.W.keepIn K (.ref f2) = true)
    (a3 : PySem.W.findIn K (.ref C_Device) "step" = some (some (.ref f3)))
    (i3 : PySem.W.isFn K (.ref f3) = true)
    (l3 : K.lookup f3 = some ⟨oc3, od3, .func (PySem.W.fnOf "step" "Device.step" (defArgs s_Device_step) (defBody s_Device_step) (defScope s_Device_step) .none kV3 dc3 pm3 an3 cd3 ct3), sl3⟩)
    (c3 : PySem.W.codeIn K cd3 "Device.step" = true)
    (k3 : PySem.W.keepIn K (.ref f3) = true)
    (a4 : PySem.W.findIn K (.ref C_Device) "write_page" = some (some (.ref f4)))
    (i4 : PySem.W.isFn K (.ref f4) = true)
    (l4 : K.lookup f4 = some ⟨oc4, od4, .func (PySem.W.fnOf "write_page" "Device.write_page" (defArgs s_Device_write_page) (defBody s_Device_write_page) (defScope s_Device_write_page) .none kV4 dc4 pm4 an4 cd4 ct4), sl4⟩)
    (c4 : PySem.W.codeIn K cd4 "Device.write_page" = true)
    (k4 : PySem.W.keepIn K (.ref f4) = true)
    (a5 : PySem.W.findIn K (.ref C_Device) "sync_pages" = some (some (.ref f5)))
    (i5 : PySem.W.isFn K (.ref f5) = true)
    (l5 : K.lookup f5 = some ⟨oc5, od5, .func (PySem.W.fnOf "sync_pages" "Device.sync_pages" (defArgs s_Device_sync_pages) (defBody s_Device_sync_pages) (defScope s_Device_sync_pages) .none kV5 dc5 pm5 an5 cd5 ct5), sl5⟩)
    (c5 : PySem.W.codeIn K cd5 "Device.sync_pages" = true)
    (k5 : PySem.W.keepIn K (.ref f5) = true)
    (a6 : PySem.W.findIn K (.ref C_Device) "append" = some (some (.ref f6)))
    (i6 : PySem.W.isFn K (.ref f6) = true)
    (l6 : K.lookup f6 = some ⟨oc6, od6, .func (PySem.W.fnOf "append" "Device.append" (defArgs s_Device_append) (defBody s_Device_append) (defScope s_Device_append) .none kV6 dc6 pm6 an6 cd6 ct6), sl6⟩)
    (c6 : PySem.W.codeIn K cd6 "Device.append" = true)
    (k6 : PySem.W.keepIn K (.ref f6) = true)
    (a7 : PySem.W.findIn K (.ref C_Device) "clear" = some (some (.ref f7)))
    (i7 : PySem.W.isFn K (.ref f7) = true)
    (l7 : K.lookup f7 = some ⟨oc7, od7, .func (PySem.W.fnOf "clear" "Device.clear" (defArgs s_Device_clear) (defBody s_Device_clear) (defScope s_Device_clear) .none kV7 dc7 pm7 an7 cd7 ct7), sl7⟩)
    (c7 : PySem.W.codeIn K cd7 "Device.clear" = true)
    (k7 : PySem.W.keepIn K (.ref f7) = true)
    (a8 : PySem.W.findIn K (.ref C_Device) "sync_log" = some (some (.ref f8)))
    (i8 : PySem.W.isFn K (.ref f8) = true)
    (l8 : K.lookup f8 = some ⟨oc8, od8, .func (PySem.W.fnOf "sync_log" "Device.sync_log" (defArgs s_Device_sync_log) (defBody s_Device_sync_log) (defScope s_Device_sync_log) .none kV8 dc8 pm8 an8 cd8 ct8), sl8⟩)
    (c8 : PySem.W.codeIn K cd8 "Device.sync_log" = true)
    (k8 : PySem.W.keepIn K (.ref f8) = true)
    (a9 : PySem.W.findIn K (.ref C_Device) "durable_page" = some (some (.ref f9)))
    (i9 : PySem.W.isFn K (.ref f9) = true)
    (l9 : K.lookup f9 = some ⟨oc9, od9, .func (PySem.W.fnOf "durable_page" "Device.durable_page" (defArgs s_Device_durable_page) (defBody s_Device_durable_page) (defScope s_Device_durable_page) .none kV9 dc9 pm9 an9 cd9 ct9), sl9⟩)
    (c9 : PySem.W.codeIn K cd9 "Device.durable_page" = true)
    (k9 : PySem.W.keepIn K (.ref f9) = true)
    (a10 : PySem.W.findIn K (.ref C_Device) "page" = some (some (.ref f10)))
    (i10 : PySem.W.isFn K (.ref f10) = true)
    (l10 : K.lookup f10 = some ⟨oc10, od10, .func (PySem.W.fnOf "page" "Device.page" (defArgs s_Device_page) (defBody s_Device_page) (defScope s_Device_page) .none kV10 dc10 pm10 an10 cd10 ct10), sl10⟩)
    (c10 : PySem.W.codeIn K cd10 "Device.page" = true)
    (k10 : PySem.W.keepIn K (.ref f10) = true)
    (a11 : PySem.W.findIn K (.ref C_Device) "log" = some (some (.ref f11)))
    (i11 : PySem.W.isFn K (.ref f11) = true)
    (l11 : K.lookup f11 = some ⟨oc11, od11, .func (PySem.W.fnOf "log" "Device.log" (defArgs s_Device_log) (defBody s_Device_log) (defScope s_Device_log) .none kV11 dc11 pm11 an11 cd11 ct11), sl11⟩)
    (c11 : PySem.W.codeIn K cd11 "Device.log" = true)
    (k11 : PySem.W.keepIn K (.ref f11) = true)
    (a12 : PySem.W.findIn K (.ref C_Device) "limit" = some (some (.ref f12)))
    (i12 : PySem.W.isFn K (.ref f12) = true)
    (l12 : K.lookup f12 = some ⟨oc12, od12, .func (PySem.W.fnOf "limit" "Device.limit" (defArgs s_Device_limit) (defBody s_Device_limit) (defScope s_Device_limit) .none kV12 dc12 pm12 an12 cd12 ct12), sl12⟩)
    (c12 : PySem.W.codeIn K cd12 "Device.limit" = true)
    (k12 : PySem.W.keepIn K (.ref f12) = true)
    (a13 : PySem.W.findIn K (.ref C_Device) "crash" = some (some (.ref f13)))
    (i13 : PySem.W.isFn K (.ref f13) = true)
    (l13 : K.lookup f13 = some ⟨oc13, od13, .func (PySem.W.fnOf "crash" "Device.crash" (defArgs s_Device_crash) (defBody s_Device_crash) (defScope s_Device_crash) .none kV13 dc13 pm13 an13 cd13 ct13), sl13⟩)
    (c13 : PySem.W.codeIn K cd13 "Device.crash" = true)
    (k13 : PySem.W.keepIn K (.ref f13) = true)
    (a14 : PySem.W.findIn K (.ref C_Device) "steps" = some (some (.ref f14)))
    (i14 : PySem.W.isFn K (.ref f14) = true)
    (l14 : K.lookup f14 = some ⟨oc14, od14, .func (PySem.W.fnOf "steps" "Device.steps" (defArgs s_Device_steps) (defBody s_Device_steps) (defScope s_Device_steps) .none kV14 dc14 pm14 an14 cd14 ct14), sl14⟩)
    (c14 : PySem.W.codeIn K cd14 "Device.steps" = true)
    (k14 : PySem.W.keepIn K (.ref f14) = true)
    (a15 : PySem.W.findIn K (.ref C_Device) "pending" = some (some (.ref f15)))
    (i15 : PySem.W.isFn K (.ref f15) = true)
    (l15 : K.lookup f15 = some ⟨oc15, od15, .func (PySem.W.fnOf "pending" "Device.pending" (defArgs s_Device_pending) (defBody s_Device_pending) (defScope s_Device_pending) .none kV15 dc15 pm15 an15 cd15 ct15), sl15⟩)
    (c15 : PySem.W.codeIn K cd15 "Device.pending" = true)
    (k15 : PySem.W.keepIn K (.ref f15) = true)
    (a16 : PySem.W.nsIn K mainGlobals "write_number" = some (some (.ref f16)))
    (l16 : K.lookup f16 = some ⟨oc16, od16, .func (PySem.W.fnOf "write_number" "write_number" (defArgs s_write_number) (defBody s_write_number) (defScope s_write_number) .none kV16 dc16 pm16 an16 cd16 ct16), sl16⟩)
    (c16 : PySem.W.codeIn K cd16 "write_number" = true)
    (k16 : PySem.W.keepIn K (.ref f16) = true)
    (a17 : PySem.W.nsIn K mainGlobals "read_number" = some (some (.ref f17)))
    (l17 : K.lookup f17 = some ⟨oc17, od17, .func (PySem.W.fnOf "read_number" "read_number" (defArgs s_read_number) (defBody s_read_number) (defScope s_read_number) .none kV17 dc17 pm17 an17 cd17 ct17), sl17⟩)
    (c17 : PySem.W.codeIn K cd17 "read_number" = true)
    (k17 : PySem.W.keepIn K (.ref f17) = true)
    (a18 : PySem.W.nsIn K mainGlobals "write_point" = some (some (.ref f18)))
    (l18 : K.lookup f18 = some ⟨oc18, od18, .func (PySem.W.fnOf "write_point" "write_point" (defArgs s_write_point) (defBody s_write_point) (defScope s_write_point) .none kV18 dc18 pm18 an18 cd18 ct18), sl18⟩)
    (c18 : PySem.W.codeIn K cd18 "write_point" = true)
    (k18 : PySem.W.keepIn K (.ref f18) = true)
    (a19 : PySem.W.nsIn K mainGlobals "read_point" = some (some (.ref f19)))
    (l19 : K.lookup f19 = some ⟨oc19, od19, .func (PySem.W.fnOf "read_point" "read_point" (defArgs s_read_point) (defBody s_read_point) (defScope s_read_point) .none kV19 dc19 pm19 an19 cd19 ct19), sl19⟩)
    (c19 : PySem.W.codeIn K cd19 "read_point" = true)
    (k19 : PySem.W.keepIn K (.ref f19) = true)
    (a20 : PySem.W.nsIn K mainGlobals "pair_of" = some (some (.ref f20)))
    (l20 : K.lookup f20 = some ⟨oc20, od20, .func (PySem.W.fnOf "pair_of" "pair_of" (defArgs s_pair_of) (defBody s_pair_of) (defScope s_pair_of) .none kV20 dc20 pm20 an20 cd20 ct20), sl20⟩)
    (c20 : PySem.W.codeIn K cd20 "pair_of" = true)
    (k20 : PySem.W.keepIn K (.ref f20) = true)
    (a21 : PySem.W.nsIn K mainGlobals "filled" = some (some (.ref f21)))
    (l21 : K.lookup f21 = some ⟨oc21, od21, .func (PySem.W.fnOf "filled" "filled" (defArgs s_filled) (defBody s_filled) (defScope s_filled) .none kV21 dc21 pm21 an21 cd21 ct21), sl21⟩)
    (c21 : PySem.W.codeIn K cd21 "filled" = true)
    (k21 : PySem.W.keepIn K (.ref f21) = true)
    (a22 : PySem.W.findIn K (.ref C_KeyTree) "__init__" = some (some (.ref f22)))
    (i22 : PySem.W.isFn K (.ref f22) = true)
    (l22 : K.lookup f22 = some ⟨oc22, od22, .func (PySem.W.fnOf "__init__" "KeyTree.__init__" (defArgs s_KeyTree___init__) (defBody s_KeyTree___init__) (defScope s_KeyTree___init__) .none kV22 dc22 pm22 an22 cd22 ct22), sl22⟩)
    (c22 : PySem.W.codeIn K cd22 "KeyTree.__init__" = true)
    (k22 : PySem.W.keepIn K (.ref f22) = true)
    (a23 : PySem.W.findIn K (.ref C_KeyTree) "write_entry" = some (some (.ref f23)))
    (i23 : PySem.W.isFn K (.ref f23) = true)
    (l23 : K.lookup f23 = some ⟨oc23, od23, .func (PySem.W.fnOf "write_entry" "KeyTree.write_entry" (defArgs s_KeyTree_write_entry) (defBody s_KeyTree_write_entry) (defScope s_KeyTree_write_entry) .none kV23 dc23 pm23 an23 cd23 ct23), sl23⟩)
    (c23 : PySem.W.codeIn K cd23 "KeyTree.write_entry" = true)
    (k23 : PySem.W.keepIn K (.ref f23) = true)
    (a24 : PySem.W.findIn K (.ref C_KeyTree) "write_item" = some (some (.ref f24)))
    (i24 : PySem.W.isFn K (.ref f24) = true)
    (l24 : K.lookup f24 = some ⟨oc24, od24, .func (PySem.W.fnOf "write_item" "KeyTree.write_item" (defArgs s_KeyTree_write_item) (defBody s_KeyTree_write_item) (defScope s_KeyTree_write_item) .none kV24 dc24 pm24 an24 cd24 ct24), sl24⟩)
    (c24 : PySem.W.codeIn K cd24 "KeyTree.write_item" = true)
    (k24 : PySem.W.keepIn K (.ref f24) = true)
    (a25 : PySem.W.findIn K (.ref C_KeyTree) "load" = some (some (.ref f25)))
    (i25 : PySem.W.isFn K (.ref f25) = true)
    (l25 : K.lookup f25 = some ⟨oc25, od25, .func (PySem.W.fnOf "load" "KeyTree.load" (defArgs s_KeyTree_load) (defBody s_KeyTree_load) (defScope s_KeyTree_load) .none kV25 dc25 pm25 an25 cd25 ct25), sl25⟩)
    (c25 : PySem.W.codeIn K cd25 "KeyTree.load" = true)
    (k25 : PySem.W.keepIn K (.ref f25) = true)
    (a26 : PySem.W.findIn K (.ref C_KeyTree) "bytes_of" = some (some (.ref f26)))
    (i26 : PySem.W.isFn K (.ref f26) = true)
    (l26 : K.lookup f26 = some ⟨oc26, od26, .func (PySem.W.fnOf "bytes_of" "KeyTree.bytes_of" (defArgs s_KeyTree_bytes_of) (defBody s_KeyTree_bytes_of) (defScope s_KeyTree_bytes_of) .none kV26 dc26 pm26 an26 cd26 ct26), sl26⟩)
    (c26 : PySem.W.codeIn K cd26 "KeyTree.bytes_of" = true)
    (k26 : PySem.W.keepIn K (.ref f26) = true)
    (a27 : PySem.W.findIn K (.ref C_KeyTree) "store" = some (some (.ref f27)))
    (i27 : PySem.W.isFn K (.ref f27) = true)
    (l27 : K.lookup f27 = some ⟨oc27, od27, .func (PySem.W.fnOf "store" "KeyTree.store" (defArgs s_KeyTree_store) (defBody s_KeyTree_store) (defScope s_KeyTree_store) .none kV27 dc27 pm27 an27 cd27 ct27), sl27⟩)
    (c27 : PySem.W.codeIn K cd27 "KeyTree.store" = true)
    (k27 : PySem.W.keepIn K (.ref f27) = true)
    (a28 : PySem.W.findIn K (.ref C_KeyTree) "too_large" = some (some (.ref f28)))
    (i28 : PySem.W.isFn K (.ref f28) = true)
    (l28 : K.lookup f28 = some ⟨oc28, od28, .func (PySem.W.fnOf "too_large" "KeyTree.too_large" (defArgs s_KeyTree_too_large) (defBody s_KeyTree_too_large) (defScope s_KeyTree_too_large) .none kV28 dc28 pm28 an28 cd28 ct28), sl28⟩)
    (c28 : PySem.W.codeIn K cd28 "KeyTree.too_large" = true)
    (k28 : PySem.W.keepIn K (.ref f28) = true)
    (a29 : PySem.W.findIn K (.ref C_KeyTree) "halves" = some (some (.ref f29)))
    (i29 : PySem.W.isFn K (.ref f29) = true)
    (l29 : K.lookup f29 = some ⟨oc29, od29, .func (PySem.W.fnOf "halves" "KeyTree.halves" (defArgs s_KeyTree_halves) (defBody s_KeyTree_halves) (defScope s_KeyTree_halves) .none kV29 dc29 pm29 an29 cd29 ct29), sl29⟩)
    (c29 : PySem.W.codeIn K cd29 "KeyTree.halves" = true)
    (k29 : PySem.W.keepIn K (.ref f29) = true)
    (a30 : PySem.W.findIn K (.ref C_KeyTree) "child_place" = some (some (.ref f30)))
    (i30 : PySem.W.isFn K (.ref f30) = true)
    (l30 : K.lookup f30 = some ⟨oc30, od30, .func (PySem.W.fnOf "child_place" "KeyTree.child_place" (defArgs s_KeyTree_child_place) (defBody s_KeyTree_child_place) (defScope s_KeyTree_child_place) .none kV30 dc30 pm30 an30 cd30 ct30), sl30⟩)
    (c30 : PySem.W.codeIn K cd30 "KeyTree.child_place" = true)
    (k30 : PySem.W.keepIn K (.ref f30) = true)
    (a31 : PySem.W.findIn K (.ref C_KeyTree) "path_to" = some (some (.ref f31)))
    (i31 : PySem.W.isFn K (.ref f31) = true)
    (l31 : K.lookup f31 = some ⟨oc31, od31, .func (PySem.W.fnOf "path_to" "KeyTree.path_to" (defArgs s_KeyTree_path_to) (defBody s_KeyTree_path_to) (defScope s_KeyTree_path_to) .none kV31 dc31 pm31 an31 cd31 ct31), sl31⟩)
    (c31 : PySem.W.codeIn K cd31 "KeyTree.path_to" = true)
    (k31 : PySem.W.keepIn K (.ref f31) = true)
    (a32 : PySem.W.findIn K (.ref C_KeyTree) "save" = some (some (.ref f32)))
    (i32 : PySem.W.isFn K (.ref f32) = true)
    (l32 : K.lookup f32 = some ⟨oc32, od32, .func (PySem.W.fnOf "save" "KeyTree.save" (defArgs s_KeyTree_save) (defBody s_KeyTree_save) (defScope s_KeyTree_save) .none kV32 dc32 pm32 an32 cd32 ct32), sl32⟩)
    (c32 : PySem.W.codeIn K cd32 "KeyTree.save" = true)
    (k32 : PySem.W.keepIn K (.ref f32) = true)
    (a33 : PySem.W.findIn K (.ref C_KeyTree) "insert" = some (some (.ref f33)))
    (i33 : PySem.W.isFn K (.ref f33) = true)
    (l33 : K.lookup f33 = some ⟨oc33, od33, .func (PySem.W.fnOf "insert" "KeyTree.insert" (defArgs s_KeyTree_insert) (defBody s_KeyTree_insert) (defScope s_KeyTree_insert) .none kV33 dc33 pm33 an33 cd33 ct33), sl33⟩)
    (c33 : PySem.W.codeIn K cd33 "KeyTree.insert" = true)
    (k33 : PySem.W.keepIn K (.ref f33) = true)
    (a34 : PySem.W.findIn K (.ref C_KeyTree) "replace" = some (some (.ref f34)))
    (i34 : PySem.W.isFn K (.ref f34) = true)
    (l34 : K.lookup f34 = some ⟨oc34, od34, .func (PySem.W.fnOf "replace" "KeyTree.replace" (defArgs s_KeyTree_replace) (defBody s_KeyTree_replace) (defScope s_KeyTree_replace) .none kV34 dc34 pm34 an34 cd34 ct34), sl34⟩)
    (c34 : PySem.W.codeIn K cd34 "KeyTree.replace" = true)
    (k34 : PySem.W.keepIn K (.ref f34) = true)
    (a35 : PySem.W.findIn K (.ref C_KeyTree) "delete" = some (some (.ref f35)))
    (i35 : PySem.W.isFn K (.ref f35) = true)
    (l35 : K.lookup f35 = some ⟨oc35, od35, .func (PySem.W.fnOf "delete" "KeyTree.delete" (defArgs s_KeyTree_delete) (defBody s_KeyTree_delete) (defScope s_KeyTree_delete) .none kV35 dc35 pm35 an35 cd35 ct35), sl35⟩)
    (c35 : PySem.W.codeIn K cd35 "KeyTree.delete" = true)
    (k35 : PySem.W.keepIn K (.ref f35) = true)
    (a36 : PySem.W.findIn K (.ref C_KeyTree) "lower" = some (some (.ref f36)))
    (i36 : PySem.W.isFn K (.ref f36) = true)
    (l36 : K.lookup f36 = some ⟨oc36, od36, .func (PySem.W.fnOf "lower" "KeyTree.lower" (defArgs s_KeyTree_lower) (defBody s_KeyTree_lower) (defScope s_KeyTree_lower) .none kV36 dc36 pm36 an36 cd36 ct36), sl36⟩)
    (c36 : PySem.W.codeIn K cd36 "KeyTree.lower" = true)
    (k36 : PySem.W.keepIn K (.ref f36) = true)
    (a37 : PySem.W.findIn K (.ref C_KeyTree) "entries" = some (some (.ref f37)))
    (i37 : PySem.W.isFn K (.ref f37) = true)
    (l37 : K.lookup f37 = some ⟨oc37, od37, .func (PySem.W.fnOf "entries" "KeyTree.entries" (defArgs s_KeyTree_entries) (defBody s_KeyTree_entries) (defScope s_KeyTree_entries) .none kV37 dc37 pm37 an37 cd37 ct37), sl37⟩)
    (c37 : PySem.W.codeIn K cd37 "KeyTree.entries" = true)
    (k37 : PySem.W.keepIn K (.ref f37) = true)
    (a38 : PySem.W.findIn K (.ref C_KeyTree) "pages" = some (some (.ref f38)))
    (i38 : PySem.W.isFn K (.ref f38) = true)
    (l38 : K.lookup f38 = some ⟨oc38, od38, .func (PySem.W.fnOf "pages" "KeyTree.pages" (defArgs s_KeyTree_pages) (defBody s_KeyTree_pages) (defScope s_KeyTree_pages) .none kV38 dc38 pm38 an38 cd38 ct38), sl38⟩)
    (c38 : PySem.W.codeIn K cd38 "KeyTree.pages" = true)
    (k38 : PySem.W.keepIn K (.ref f38) = true)
    (a39 : PySem.W.nsIn K mainGlobals "read_groups" = some (some (.ref f39)))
    (l39 : K.lookup f39 = some ⟨oc39, od39, .func (PySem.W.fnOf "read_groups" "read_groups" (defArgs s_read_groups) (defBody s_read_groups) (defScope s_read_groups) .none kV39 dc39 pm39 an39 cd39 ct39), sl39⟩)
    (c39 : PySem.W.codeIn K cd39 "read_groups" = true)
    (k39 : PySem.W.keepIn K (.ref f39) = true)
    (a40 : PySem.W.findIn K (.ref C_Pager) "__init__" = some (some (.ref f40)))
    (i40 : PySem.W.isFn K (.ref f40) = true)
    (l40 : K.lookup f40 = some ⟨oc40, od40, .func (PySem.W.fnOf "__init__" "Pager.__init__" (defArgs s_Pager___init__) (defBody s_Pager___init__) (defScope s_Pager___init__) .none kV40 dc40 pm40 an40 cd40 ct40), sl40⟩)
    (c40 : PySem.W.codeIn K cd40 "Pager.__init__" = true)
    (k40 : PySem.W.keepIn K (.ref f40) = true)
    (a41 : PySem.W.findIn K (.ref C_Pager) "count_head" = some (some (.ref f41)))
    (i41 : PySem.W.isFn K (.ref f41) = true)
    (l41 : K.lookup f41 = some ⟨oc41, od41, .func (PySem.W.fnOf "count_head" "Pager.count_head" (defArgs s_Pager_count_head) (defBody s_Pager_count_head) (defScope s_Pager_count_head) .none kV41 dc41 pm41 an41 cd41 ct41), sl41⟩)
    (c41 : PySem.W.codeIn K cd41 "Pager.count_head" = true)
    (k41 : PySem.W.keepIn K (.ref f41) = true)
    (a42 : PySem.W.findIn K (.ref C_Pager) "read" = some (some (.ref f42)))
    (i42 : PySem.W.isFn K (.ref f42) = true)
    (l42 : K.lookup f42 = some ⟨oc42, od42, .func (PySem.W.fnOf "read" "Pager.read" (defArgs s_Pager_read) (defBody s_Pager_read) (defScope s_Pager_read) .none kV42 dc42 pm42 an42 cd42 ct42), sl42⟩)
    (c42 : PySem.W.codeIn K cd42 "Pager.read" = true)
    (k42 : PySem.W.keepIn K (.ref f42) = true)
    (a43 : PySem.W.findIn K (.ref C_Pager) "write" = some (some (.ref f43)))
    (i43 : PySem.W.isFn K (.ref f43) = true)
    (l43 : K.lookup f43 = some ⟨oc43, od43, .func (PySem.W.fnOf "write" "Pager.write" (defArgs s_Pager_write) (defBody s_Pager_write) (defScope s_Pager_write) .none kV43 dc43 pm43 an43 cd43 ct43), sl43⟩)
    (c43 : PySem.W.codeIn K cd43 "Pager.write" = true)
    (k43 : PySem.W.keepIn K (.ref f43) = true)
    (a44 : PySem.W.findIn K (.ref C_Pager) "field" = some (some (.ref f44)))
    (i44 : PySem.W.isFn K (.ref f44) = true)
    (l44 : K.lookup f44 = some ⟨oc44, od44, .func (PySem.W.fnOf "field" "Pager.field" (defArgs s_Pager_field) (defBody s_Pager_field) (defScope s_Pager_field) .none kV44 dc44 pm44 an44 cd44 ct44), sl44⟩)
    (c44 : PySem.W.codeIn K cd44 "Pager.field" = true)
    (k44 : PySem.W.keepIn K (.ref f44) = true)
    (a45 : PySem.W.findIn K (.ref C_Pager) "set_field" = some (some (.ref f45)))
    (i45 : PySem.W.isFn K (.ref f45) = true)
    (l45 : K.lookup f45 = some ⟨oc45, od45, .func (PySem.W.fnOf "set_field" "Pager.set_field" (defArgs s_Pager_set_field) (defBody s_Pager_set_field) (defScope s_Pager_set_field) .none kV45 dc45 pm45 an45 cd45 ct45), sl45⟩)
    (c45 : PySem.W.codeIn K cd45 "Pager.set_field" = true)
    (k45 : PySem.W.keepIn K (.ref f45) = true)
    (a46 : PySem.W.findIn K (.ref C_Pager) "allocate" = some (some (.ref f46)))
    (i46 : PySem.W.isFn K (.ref f46) = true)
    (l46 : K.lookup f46 = some ⟨oc46, od46, .func (PySem.W.fnOf "allocate" "Pager.allocate" (defArgs s_Pager_allocate) (defBody s_Pager_allocate) (defScope s_Pager_allocate) .none kV46 dc46 pm46 an46 cd46 ct46), sl46⟩)
    (c46 : PySem.W.codeIn K cd46 "Pager.allocate" = true)
    (k46 : PySem.W.keepIn K (.ref f46) = true)
    (a47 : PySem.W.findIn K (.ref C_Pager) "release" = some (some (.ref f47)))
    (i47 : PySem.W.isFn K (.ref f47) = true)
    (l47 : K.lookup f47 = some ⟨oc47, od47, .func (PySem.W.fnOf "release" "Pager.release" (defArgs s_Pager_release) (defBody s_Pager_release) (defScope s_Pager_release) .none kV47 dc47 pm47 an47 cd47 ct47), sl47⟩)
    (c47 : PySem.W.codeIn K cd47 "Pager.release" = true)
    (k47 : PySem.W.keepIn K (.ref f47) = true)
    (a48 : PySem.W.findIn K (.ref C_Pager) "commit" = some (some (.ref f48)))
    (i48 : PySem.W.isFn K (.ref f48) = true)
    (l48 : K.lookup f48 = some ⟨oc48, od48, .func (PySem.W.fnOf "commit" "Pager.commit" (defArgs s_Pager_commit) (defBody s_Pager_commit) (defScope s_Pager_commit) .none kV48 dc48 pm48 an48 cd48 ct48), sl48⟩)
    (c48 : PySem.W.codeIn K cd48 "Pager.commit" = true)
    (k48 : PySem.W.keepIn K (.ref f48) = true)
    (a49 : PySem.W.findIn K (.ref C_Pager) "checkpoint" = some (some (.ref f49)))
    (i49 : PySem.W.isFn K (.ref f49) = true)
    (l49 : K.lookup f49 = some ⟨oc49, od49, .func (PySem.W.fnOf "checkpoint" "Pager.checkpoint" (defArgs s_Pager_checkpoint) (defBody s_Pager_checkpoint) (defScope s_Pager_checkpoint) .none kV49 dc49 pm49 an49 cd49 ct49), sl49⟩)
    (c49 : PySem.W.codeIn K cd49 "Pager.checkpoint" = true)
    (k49 : PySem.W.keepIn K (.ref f49) = true)
    (a50 : PySem.W.findIn K (.ref C_Pager) "rollback" = some (some (.ref f50)))
    (i50 : PySem.W.isFn K (.ref f50) = true)
    (l50 : K.lookup f50 = some ⟨oc50, od50, .func (PySem.W.fnOf "rollback" "Pager.rollback" (defArgs s_Pager_rollback) (defBody s_Pager_rollback) (defScope s_Pager_rollback) .none kV50 dc50 pm50 an50 cd50 ct50), sl50⟩)
    (c50 : PySem.W.codeIn K cd50 "Pager.rollback" = true)
    (k50 : PySem.W.keepIn K (.ref f50) = true)
    (a51 : PySem.W.nsIn K mainGlobals "_law_draw" = some (some (.ref f51)))
    (l51 : K.lookup f51 = some ⟨oc51, od51, .func (PySem.W.fnOf "_law_draw" "_law_draw" (defArgs s__law_draw) (defBody s__law_draw) (defScope s__law_draw) .none kV51 dc51 pm51 an51 cd51 ct51), sl51⟩)
    (c51 : PySem.W.codeIn K cd51 "_law_draw" = true)
    (k51 : PySem.W.keepIn K (.ref f51) = true)
    (a52 : PySem.W.nsIn K mainGlobals "_law_point" = some (some (.ref f52)))
    (l52 : K.lookup f52 = some ⟨oc52, od52, .func (PySem.W.fnOf "_law_point" "_law_point" (defArgs s__law_point) (defBody s__law_point) (defScope s__law_point) .none kV52 dc52 pm52 an52 cd52 ct52), sl52⟩)
    (c52 : PySem.W.codeIn K cd52 "_law_point" = true)
    (k52 : PySem.W.keepIn K (.ref f52) = true)
    (a53 : PySem.W.nsIn K mainGlobals "_law_spanned" = some (some (.ref f53)))
    (l53 : K.lookup f53 = some ⟨oc53, od53, .func (PySem.W.fnOf "_law_spanned" "_law_spanned" (defArgs s__law_spanned) (defBody s__law_spanned) (defScope s__law_spanned) .none kV53 dc53 pm53 an53 cd53 ct53), sl53⟩)
    (c53 : PySem.W.codeIn K cd53 "_law_spanned" = true)
    (k53 : PySem.W.keepIn K (.ref f53) = true)
    (a54 : PySem.W.nsIn K mainGlobals "_law_payload" = some (some (.ref f54)))
    (l54 : K.lookup f54 = some ⟨oc54, od54, .func (PySem.W.fnOf "_law_payload" "_law_payload" (defArgs s__law_payload) (defBody s__law_payload) (defScope s__law_payload) .none kV54 dc54 pm54 an54 cd54 ct54), sl54⟩)
    (c54 : PySem.W.codeIn K cd54 "_law_payload" = true)
    (k54 : PySem.W.keepIn K (.ref f54) = true)
    (a55 : PySem.W.nsIn K mainGlobals "_law_bytes" = some (some (.ref f55)))
    (l55 : K.lookup f55 = some ⟨oc55, od55, .func (PySem.W.fnOf "_law_bytes" "_law_bytes" (defArgs s__law_bytes) (defBody s__law_bytes) (defScope s__law_bytes) .none kV55 dc55 pm55 an55 cd55 ct55), sl55⟩)
    (c55 : PySem.W.codeIn K cd55 "_law_bytes" = true)
    (k55 : PySem.W.keepIn K (.ref f55) = true)
    (a56 : PySem.W.nsIn K mainGlobals "_law_entry" = some (some (.ref f56)))
    (l56 : K.lookup f56 = some ⟨oc56, od56, .func (PySem.W.fnOf "_law_entry" "_law_entry" (defArgs s__law_entry) (defBody s__law_entry) (defScope s__law_entry) .none kV56 dc56 pm56 an56 cd56 ct56), sl56⟩)
    (c56 : PySem.W.codeIn K cd56 "_law_entry" = true)
    (k56 : PySem.W.keepIn K (.ref f56) = true)
    (a57 : PySem.W.nsIn K mainGlobals "_law_child" = some (some (.ref f57)))
    (l57 : K.lookup f57 = some ⟨oc57, od57, .func (PySem.W.fnOf "_law_child" "_law_child" (defArgs s__law_child) (defBody s__law_child) (defScope s__law_child) .none kV57 dc57 pm57 an57 cd57 ct57), sl57⟩)
    (c57 : PySem.W.codeIn K cd57 "_law_child" = true)
    (k57 : PySem.W.keepIn K (.ref f57) = true)
    (a58 : PySem.W.nsIn K mainGlobals "_law_parts" = some (some (.ref f58)))
    (l58 : K.lookup f58 = some ⟨oc58, od58, .func (PySem.W.fnOf "_law_parts" "_law_parts" (defArgs s__law_parts) (defBody s__law_parts) (defScope s__law_parts) .none kV58 dc58 pm58 an58 cd58 ct58), sl58⟩)
    (c58 : PySem.W.codeIn K cd58 "_law_parts" = true)
    (k58 : PySem.W.keepIn K (.ref f58) = true)
    (a59 : PySem.W.nsIn K mainGlobals "_law_taken" = some (some (.ref f59)))
    (l59 : K.lookup f59 = some ⟨oc59, od59, .func (PySem.W.fnOf "_law_taken" "_law_taken" (defArgs s__law_taken) (defBody s__law_taken) (defScope s__law_taken) .none kV59 dc59 pm59 an59 cd59 ct59), sl59⟩)
    (c59 : PySem.W.codeIn K cd59 "_law_taken" = true)
    (k59 : PySem.W.keepIn K (.ref f59) = true)
    (a60 : PySem.W.nsIn K mainGlobals "_law_released" = some (some (.ref f60)))
    (l60 : K.lookup f60 = some ⟨oc60, od60, .func (PySem.W.fnOf "_law_released" "_law_released" (defArgs s__law_released) (defBody s__law_released) (defScope s__law_released) .none kV60 dc60 pm60 an60 cd60 ct60), sl60⟩)
    (c60 : PySem.W.codeIn K cd60 "_law_released" = true)
    (k60 : PySem.W.keepIn K (.ref f60) = true)
    (a61 : PySem.W.nsIn K mainGlobals "_law_way" = some (some (.ref f61)))
    (l61 : K.lookup f61 = some ⟨oc61, od61, .func (PySem.W.fnOf "_law_way" "_law_way" (defArgs s__law_way) (defBody s__law_way) (defScope s__law_way) .none kV61 dc61 pm61 an61 cd61 ct61), sl61⟩)
    (c61 : PySem.W.codeIn K cd61 "_law_way" = true)
    (k61 : PySem.W.keepIn K (.ref f61) = true)
    (a62 : PySem.W.nsIn K mainGlobals "_law_split_place" = some (some (.ref f62)))
    (l62 : K.lookup f62 = some ⟨oc62, od62, .func (PySem.W.fnOf "_law_split_place" "_law_split_place" (defArgs s__law_split_place) (defBody s__law_split_place) (defScope s__law_split_place) .none kV62 dc62 pm62 an62 cd62 ct62), sl62⟩)
    (c62 : PySem.W.codeIn K cd62 "_law_split_place" = true)
    (k62 : PySem.W.keepIn K (.ref f62) = true)
    (a63 : PySem.W.nsIn K mainGlobals "_law_settled" = some (some (.ref f63)))
    (l63 : K.lookup f63 = some ⟨oc63, od63, .func (PySem.W.fnOf "_law_settled" "_law_settled" (defArgs s__law_settled) (defBody s__law_settled) (defScope s__law_settled) .none kV63 dc63 pm63 an63 cd63 ct63), sl63⟩)
    (c63 : PySem.W.codeIn K cd63 "_law_settled" = true)
    (k63 : PySem.W.keepIn K (.ref f63) = true)
    (a64 : PySem.W.nsIn K mainGlobals "_law_lowered" = some (some (.ref f64)))
    (l64 : K.lookup f64 = some ⟨oc64, od64, .func (PySem.W.fnOf "_law_lowered" "_law_lowered" (defArgs s__law_lowered) (defBody s__law_lowered) (defScope s__law_lowered) .none kV64 dc64 pm64 an64 cd64 ct64), sl64⟩)
    (c64 : PySem.W.codeIn K cd64 "_law_lowered" = true)
    (k64 : PySem.W.keepIn K (.ref f64) = true)
    (a65 : PySem.W.nsIn K mainGlobals "_law_deleted" = some (some (.ref f65)))
    (l65 : K.lookup f65 = some ⟨oc65, od65, .func (PySem.W.fnOf "_law_deleted" "_law_deleted" (defArgs s__law_deleted) (defBody s__law_deleted) (defScope s__law_deleted) .none kV65 dc65 pm65 an65 cd65 ct65), sl65⟩)
    (c65 : PySem.W.codeIn K cd65 "_law_deleted" = true)
    (k65 : PySem.W.keepIn K (.ref f65) = true)
    (a66 : PySem.W.nsIn K mainGlobals "_law_page" = some (some (.ref f66)))
    (l66 : K.lookup f66 = some ⟨oc66, od66, .func (PySem.W.fnOf "_law_page" "_law_page" (defArgs s__law_page) (defBody s__law_page) (defScope s__law_page) .none kV66 dc66 pm66 an66 cd66 ct66), sl66⟩)
    (c66 : PySem.W.codeIn K cd66 "_law_page" = true)
    (k66 : PySem.W.keepIn K (.ref f66) = true)
    (a67 : PySem.W.nsIn K mainGlobals "_law_same" = some (some (.ref f67)))
    (l67 : K.lookup f67 = some ⟨oc67, od67, .func (PySem.W.fnOf "_law_same" "_law_same" (defArgs s__law_same) (defBody s__law_same) (defScope s__law_same) .none kV67 dc67 pm67 an67 cd67 ct67), sl67⟩)
    (c67 : PySem.W.codeIn K cd67 "_law_same" = true)
    (k67 : PySem.W.keepIn K (.ref f67) = true)
    (a68 : PySem.W.nsIn K mainGlobals "_law_new" = some (some (.ref f68)))
    (l68 : K.lookup f68 = some ⟨oc68, od68, .func (PySem.W.fnOf "_law_new" "_law_new" (defArgs s__law_new) (defBody s__law_new) (defScope s__law_new) .none kV68 dc68 pm68 an68 cd68 ct68), sl68⟩)
    (c68 : PySem.W.codeIn K cd68 "_law_new" = true)
    (k68 : PySem.W.keepIn K (.ref f68) = true)
    (a69 : PySem.W.nsIn K mainGlobals "_law_inserted" = some (some (.ref f69)))
    (l69 : K.lookup f69 = some ⟨oc69, od69, .func (PySem.W.fnOf "_law_inserted" "_law_inserted" (defArgs s__law_inserted) (defBody s__law_inserted) (defScope s__law_inserted) .none kV69 dc69 pm69 an69 cd69 ct69), sl69⟩)
    (c69 : PySem.W.codeIn K cd69 "_law_inserted" = true)
    (k69 : PySem.W.keepIn K (.ref f69) = true)
    (a70 : PySem.W.nsIn K mainGlobals "_law_step" = some (some (.ref f70)))
    (l70 : K.lookup f70 = some ⟨oc70, od70, .func (PySem.W.fnOf "_law_step" "_law_step" (defArgs s__law_step) (defBody s__law_step) (defScope s__law_step) .none kV70 dc70 pm70 an70 cd70 ct70), sl70⟩)
    (c70 : PySem.W.codeIn K cd70 "_law_step" = true)
    (k70 : PySem.W.keepIn K (.ref f70) = true)
    (a71 : PySem.W.nsIn K mainGlobals "law" = some (some (.ref f71)))
    (l71 : K.lookup f71 = some ⟨oc71, od71, .func (PySem.W.fnOf "law" "law" (defArgs s_law) (defBody s_law) (defScope s_law) .none kV71 dc71 pm71 an71 cd71 ct71), sl71⟩)
    (c71 : PySem.W.codeIn K cd71 "law" = true)
    (k71 : PySem.W.keepIn K (.ref f71) = true)
    (g_PAGE_SIZE : PySem.W.nsIn K mainGlobals "PAGE_SIZE" = some (some (.int 256 t_PAGE_SIZE)))
    (g_OFFSET : PySem.W.nsIn K mainGlobals "OFFSET" = some (some (.int 32768 t_OFFSET)))
    (g_LEAF : PySem.W.nsIn K mainGlobals "LEAF" = some (some (.int 1 t_LEAF)))
    (g_INNER : PySem.W.nsIn K mainGlobals "INNER" = some (some (.int 2 t_INNER)))
    (g_MOST_CHILDREN : PySem.W.nsIn K mainGlobals "MOST_CHILDREN" = some (some (.int 20 t_MOST_CHILDREN)))
    (g_CHILD_SIZE : PySem.W.nsIn K mainGlobals "CHILD_SIZE" = some (some (.int 12 t_CHILD_SIZE)))
    (g_NUMBER_SIZE : PySem.W.nsIn K mainGlobals "NUMBER_SIZE" = some (some (.int 4 t_NUMBER_SIZE)))
    (g_FIELD_SIZE : PySem.W.nsIn K mainGlobals "FIELD_SIZE" = some (some (.int 4 t_FIELD_SIZE)))
    (g_PAGES : PySem.W.nsIn K mainGlobals "PAGES" = some (some (.int 6 t_PAGES)))
    (g_FREE : PySem.W.nsIn K mainGlobals "FREE" = some (some (.int 7 t_FREE)))
    (z_ValueError : PySem.W.nsIn K mainGlobals "ValueError" = some none)
    (z_int : PySem.W.nsIn K mainGlobals "int" = some none)
    (z_len : PySem.W.nsIn K mainGlobals "len" = some none)
    (z_list : PySem.W.nsIn K mainGlobals "list" = some none)
    (z_range : PySem.W.nsIn K mainGlobals "range" = some none)
    (z_reversed : PySem.W.nsIn K mainGlobals "reversed" = some none)
    (z_sorted : PySem.W.nsIn K mainGlobals "sorted" = some none)
    (z_sum : PySem.W.nsIn K mainGlobals "sum" = some none)
    (z_tuple : PySem.W.nsIn K mainGlobals "tuple" = some none)
    (pg_Device : PySem.W.plainGet K C_Device Str.empty = true)
    (hd_Device : PySem.W.hasDictIn K C_Device = true)
    (po_Device : PySem.W.plainOver K C_Device = true)
    (sa_Device : PySem.W.findIn K (.ref C_Device) "__setattr__" = some (some (.builtin "object.__setattr__")))
    (mk_Device : PySem.W.makesIn K C_Device = true)
    (kc_Device : PySem.W.keepIn K (.ref C_Device) = true)
    (n_Device_pages : PySem.W.findIn K (.ref C_Device) "pages" = some none)
    (n_Device_page_writes : PySem.W.findIn K (.ref C_Device) "page_writes" = some none)
    (n_Device_durable_log : PySem.W.findIn K (.ref C_Device) "durable_log" = some none)
    (n_Device_log_steps : PySem.W.findIn K (.ref C_Device) "log_steps" = some none)
    (n_Device_done : PySem.W.findIn K (.ref C_Device) "done" = some none)
    (n_Device_most : PySem.W.findIn K (.ref C_Device) "most" = some none)
    (pg_KeyTree : PySem.W.plainGet K C_KeyTree Str.empty = true)
    (hd_KeyTree : PySem.W.hasDictIn K C_KeyTree = true)
    (po_KeyTree : PySem.W.plainOver K C_KeyTree = true)
    (sa_KeyTree : PySem.W.findIn K (.ref C_KeyTree) "__setattr__" = some (some (.builtin "object.__setattr__")))
    (mk_KeyTree : PySem.W.makesIn K C_KeyTree = true)
    (kc_KeyTree : PySem.W.keepIn K (.ref C_KeyTree) = true)
    (n_KeyTree_pager : PySem.W.findIn K (.ref C_KeyTree) "pager" = some none)
    (n_KeyTree_root : PySem.W.findIn K (.ref C_KeyTree) "root" = some none)
    (n_KeyTree_dimensions : PySem.W.findIn K (.ref C_KeyTree) "dimensions" = some none)
    (pg_Pager : PySem.W.plainGet K C_Pager Str.empty = true)
    (hd_Pager : PySem.W.hasDictIn K C_Pager = true)
    (po_Pager : PySem.W.plainOver K C_Pager = true)
    (sa_Pager : PySem.W.findIn K (.ref C_Pager) "__setattr__" = some (some (.builtin "object.__setattr__")))
    (mk_Pager : PySem.W.makesIn K C_Pager = true)
    (kc_Pager : PySem.W.keepIn K (.ref C_Pager) = true)
    (n_Pager_device : PySem.W.findIn K (.ref C_Pager) "device" = some none)
    (n_Pager_committed : PySem.W.findIn K (.ref C_Pager) "committed" = some none)
    (n_Pager_dirty : PySem.W.findIn K (.ref C_Pager) "dirty" = some none)
    (xx_VaultError : PySem.W.excIn K C_VaultError [.type "ValueError", .type "Exception", .type "BaseException", .type "object"] "ValueError.__new__" = true)
    (xk_VaultError : PySem.W.keepIn K (.ref C_VaultError) = true)
    (xb_VaultError : PySem.W.subIn K (.ref C_VaultError) (.type "BaseException") = some true)
    (xt_VaultError : PySem.W.typeIn K (.ref C_VaultError) = some (.type "type"))
    (xi_VaultError : PySem.W.isClsIn K C_VaultError = true)
    (xs_VaultError : PySem.W.subIn K (.ref C_VaultError) (.ref C_VaultError) = some true)
    (xx_PowerCut : PySem.W.excIn K C_PowerCut [.type "ValueError", .type "Exception", .type "BaseException", .type "object"] "ValueError.__new__" = true)
    (xk_PowerCut : PySem.W.keepIn K (.ref C_PowerCut) = true)
    (xb_PowerCut : PySem.W.subIn K (.ref C_PowerCut) (.type "BaseException") = some true)
    (xt_PowerCut : PySem.W.typeIn K (.ref C_PowerCut) = some (.type "type"))
    (xi_PowerCut : PySem.W.isClsIn K C_PowerCut = true)
    (xs_PowerCut : PySem.W.subIn K (.ref C_PowerCut) (.ref C_PowerCut) = some true)
    : ∃ fd : FuncData, (∀ (s : Shared) (v : Value), BindsTo s fd ⟨[v], []⟩ [("_law_script", v)]) ∧ ∀ base : Heap, K.In base → base.Ns mainGlobals mg → FnOk l.prog w K mg base CX0 181 fa fd ["_law_script"] (sp_law K) := by
  have T : Txt K mg ⟨C_VaultError, C_PowerCut, C_Device, C_KeyTree, C_Pager⟩ := { f__wall := ⟨f1, _, fun_mk (st := s__wall) l1 c1 k1, PySem.W.mg_of X G a1⟩, f_Device___init__ := ⟨f2, _, fun_mk (st := s_Device___init__) l2 c2 k2, a2, i2⟩, f_Device_step := ⟨f3, _, fun_mk (st := s_Device_step) l3 c3 k3, a3, i3⟩, f_Device_write_page := ⟨f4, _, fun_mk (st := s_Device_write_page) l4 c4 k4, a4, i4⟩, f_Device_sync_pages := ⟨f5, _, fun_mk (st := s_Device_sync_pages) l5 c5 k5, a5, i5⟩, f_Device_append := ⟨f6, _, fun_mk (st := s_Device_append) l6 c6 k6, a6, i6⟩, f_Device_clear := ⟨f7, _, fun_mk (st := s_Device_clear) l7 c7 k7, a7, i7⟩, f_Device_sync_log := ⟨f8, _, fun_mk (st := s_Device_sync_log) l8 c8 k8, a8, i8⟩, f_Device_durable_page := ⟨f9, _, fun_mk (st := s_Device_durable_page) l9 c9 k9, a9, i9⟩, f_Device_page := ⟨f10, _, fun_mk (st := s_Device_page) l10 c10 k10, a10, i10⟩, f_Device_log := ⟨f11, _, fun_mk (st := s_Device_log) l11 c11 k11, a11, i11⟩, f_Device_limit := ⟨f12, _, fun_mk (st := s_Device_limit) l12 c12 k12, a12, i12⟩, f_Device_crash := ⟨f13, _, fun_mk (st := s_Device_crash) l13 c13 k13, a13, i13⟩, f_Device_steps := ⟨f14, _, fun_mk (st := s_Device_steps) l14 c14 k14, a14, i14⟩, f_Device_pending := ⟨f15, _, fun_mk (st := s_Device_pending) l15 c15 k15, a15, i15⟩, f_write_number := ⟨f16, _, fun_mk (st := s_write_number) l16 c16 k16, PySem.W.mg_of X G a16⟩, f_read_number := ⟨f17, _, fun_mk (st := s_read_number) l17 c17 k17, PySem.W.mg_of X G a17⟩, f_write_point := ⟨f18, _, fun_mk (st := s_write_point) l18 c18 k18, PySem.W.mg_of X G a18⟩, f_read_point := ⟨f19, _, fun_mk (st := s_read_point) l19 c19 k19, PySem.W.mg_of X G a19⟩, f_pair_of := ⟨f20, _, fun_mk (st := s_pair_of) l20 c20 k20, PySem.W.mg_of X G a20⟩, f_filled := ⟨f21, _, fun_mk (st := s_filled) l21 c21 k21, PySem.W.mg_of X G a21⟩, f_KeyTree___init__ := ⟨f22, _, fun_mk (st := s_KeyTree___init__) l22 c22 k22, a22, i22⟩, f_KeyTree_write_entry := ⟨f23, _, fun_mk (st := s_KeyTree_write_entry) l23 c23 k23, a23, i23⟩, f_KeyTree_write_item := ⟨f24, _, fun_mk (st := s_KeyTree_write_item) l24 c24 k24, a24, i24⟩, f_KeyTree_load := ⟨f25, _, fun_mk (st := s_KeyTree_load) l25 c25 k25, a25, i25⟩, f_KeyTree_bytes_of := ⟨f26, _, fun_mk (st := s_KeyTree_bytes_of) l26 c26 k26, a26, i26⟩, f_KeyTree_store := ⟨f27, _, fun_mk (st := s_KeyTree_store) l27 c27 k27, a27, i27⟩, f_KeyTree_too_large := ⟨f28, _, fun_mk (st := s_KeyTree_too_large) l28 c28 k28, a28, i28⟩, f_KeyTree_halves := ⟨f29, _, fun_mk (st := s_KeyTree_halves) l29 c29 k29, a29, i29⟩, f_KeyTree_child_place := ⟨f30, _, fun_mk (st := s_KeyTree_child_place) l30 c30 k30, a30, i30⟩, f_KeyTree_path_to := ⟨f31, _, fun_mk (st := s_KeyTree_path_to) l31 c31 k31, a31, i31⟩, f_KeyTree_save := ⟨f32, _, fun_mk (st := s_KeyTree_save) l32 c32 k32, a32, i32⟩, f_KeyTree_insert := ⟨f33, _, fun_mk (st := s_KeyTree_insert) l33 c33 k33, a33, i33⟩, f_KeyTree_replace := ⟨f34, _, fun_mk (st := s_KeyTree_replace) l34 c34 k34, a34, i34⟩, f_KeyTree_delete := ⟨f35, _, fun_mk (st := s_KeyTree_delete) l35 c35 k35, a35, i35⟩, f_KeyTree_lower := ⟨f36, _, fun_mk (st := s_KeyTree_lower) l36 c36 k36, a36, i36⟩, f_KeyTree_entries := ⟨f37, _, fun_mk (st := s_KeyTree_entries) l37 c37 k37, a37, i37⟩, f_KeyTree_pages := ⟨f38, _, fun_mk (st := s_KeyTree_pages) l38 c38 k38, a38, i38⟩, f_read_groups := ⟨f39, _, fun_mk (st := s_read_groups) l39 c39 k39, PySem.W.mg_of X G a39⟩, f_Pager___init__ := ⟨f40, _, fun_mk (st := s_Pager___init__) l40 c40 k40, a40, i40⟩, f_Pager_count_head := ⟨f41, _, fun_mk (st := s_Pager_count_head) l41 c41 k41, a41, i41⟩, f_Pager_read := ⟨f42, _, fun_mk (st := s_Pager_read) l42 c42 k42, a42, i42⟩, f_Pager_write := ⟨f43, _, fun_mk (st := s_Pager_write) l43 c43 k43, a43, i43⟩, f_Pager_field := ⟨f44, _, fun_mk (st := s_Pager_field) l44 c44 k44, a44, i44⟩, f_Pager_set_field := ⟨f45, _, fun_mk (st := s_Pager_set_field) l45 c45 k45, a45, i45⟩, f_Pager_allocate := ⟨f46, _, fun_mk (st := s_Pager_allocate) l46 c46 k46, a46, i46⟩, f_Pager_release := ⟨f47, _, fun_mk (st := s_Pager_release) l47 c47 k47, a47, i47⟩, f_Pager_commit := ⟨f48, _, fun_mk (st := s_Pager_commit) l48 c48 k48, a48, i48⟩, f_Pager_checkpoint := ⟨f49, _, fun_mk (st := s_Pager_checkpoint) l49 c49 k49, a49, i49⟩, f_Pager_rollback := ⟨f50, _, fun_mk (st := s_Pager_rollback) l50 c50 k50, a50, i50⟩, f__law_draw := ⟨f51, _, fun_mk (st := s__law_draw) l51 c51 k51, PySem.W.mg_of X G a51⟩, f__law_point := ⟨f52, _, fun_mk (st := s__law_point) l52 c52 k52, PySem.W.mg_of X G a52⟩, f__law_spanned := ⟨f53, _, fun_mk (st := s__law_spanned) l53 c53 k53, PySem.W.mg_of X G a53⟩, f__law_payload := ⟨f54, _, fun_mk (st := s__law_payload) l54 c54 k54, PySem.W.mg_of X G a54⟩, f__law_bytes := ⟨f55, _, fun_mk (st := s__law_bytes) l55 c55 k55, PySem.W.mg_of X G a55⟩, f__law_entry := ⟨f56, _, fun_mk (st := s__law_entry) l56 c56 k56, PySem.W.mg_of X G a56⟩, f__law_child := ⟨f57, _, fun_mk (st := s__law_child) l57 c57 k57, PySem.W.mg_of X G a57⟩, f__law_parts := ⟨f58, _, fun_mk (st := s__law_parts) l58 c58 k58, PySem.W.mg_of X G a58⟩, f__law_taken := ⟨f59, _, fun_mk (st := s__law_taken) l59 c59 k59, PySem.W.mg_of X G a59⟩, f__law_released := ⟨f60, _, fun_mk (st := s__law_released) l60 c60 k60, PySem.W.mg_of X G a60⟩, f__law_way := ⟨f61, _, fun_mk (st := s__law_way) l61 c61 k61, PySem.W.mg_of X G a61⟩, f__law_split_place := ⟨f62, _, fun_mk (st := s__law_split_place) l62 c62 k62, PySem.W.mg_of X G a62⟩, f__law_settled := ⟨f63, _, fun_mk (st := s__law_settled) l63 c63 k63, PySem.W.mg_of X G a63⟩, f__law_lowered := ⟨f64, _, fun_mk (st := s__law_lowered) l64 c64 k64, PySem.W.mg_of X G a64⟩, f__law_deleted := ⟨f65, _, fun_mk (st := s__law_deleted) l65 c65 k65, PySem.W.mg_of X G a65⟩, f__law_page := ⟨f66, _, fun_mk (st := s__law_page) l66 c66 k66, PySem.W.mg_of X G a66⟩, f__law_same := ⟨f67, _, fun_mk (st := s__law_same) l67 c67 k67, PySem.W.mg_of X G a67⟩, f__law_new := ⟨f68, _, fun_mk (st := s__law_new) l68 c68 k68, PySem.W.mg_of X G a68⟩, f__law_inserted := ⟨f69, _, fun_mk (st := s__law_inserted) l69 c69 k69, PySem.W.mg_of X G a69⟩, f__law_step := ⟨f70, _, fun_mk (st := s__law_step) l70 c70 k70, PySem.W.mg_of X G a70⟩, f_law := ⟨f71, _, fun_mk (st := s_law) l71 c71 k71, PySem.W.mg_of X G a71⟩, m_PAGE_SIZE := ⟨_, PySem.W.mg_of X G g_PAGE_SIZE⟩, m_OFFSET := ⟨_, PySem.W.mg_of X G g_OFFSET⟩, m_LEAF := ⟨_, PySem.W.mg_of X G g_LEAF⟩, m_INNER := ⟨_, PySem.W.mg_of X G g_INNER⟩, m_MOST_CHILDREN := ⟨_, PySem.W.mg_of X G g_MOST_CHILDREN⟩, m_CHILD_SIZE := ⟨_, PySem.W.mg_of X G g_CHILD_SIZE⟩, m_NUMBER_SIZE := ⟨_, PySem.W.mg_of X G g_NUMBER_SIZE⟩, m_FIELD_SIZE := ⟨_, PySem.W.mg_of X G g_FIELD_SIZE⟩, m_PAGES := ⟨_, PySem.W.mg_of X G g_PAGES⟩, m_FREE := ⟨_, PySem.W.mg_of X G g_FREE⟩, z_ValueError := PySem.W.mg_none_of X G z_ValueError, z_int := PySem.W.mg_none_of X G z_int, z_len := PySem.W.mg_none_of X G z_len, z_list := PySem.W.mg_none_of X G z_list, z_range := PySem.W.mg_none_of X G z_range, z_reversed := PySem.W.mg_none_of X G z_reversed, z_sorted := PySem.W.mg_none_of X G z_sorted, z_sum := PySem.W.mg_none_of X G z_sum, z_tuple := PySem.W.mg_none_of X G z_tuple, cl_Device := ⟨pg_Device, hd_Device, po_Device, sa_Device⟩, mk_Device := ⟨mk_Device, kc_Device⟩, mg_Device := PySem.W.mg_of X G aC_Device, n_Device_pages := n_Device_pages, n_Device_page_writes := n_Device_page_writes, n_Device_durable_log := n_Device_durable_log, n_Device_log_steps := n_Device_log_steps, n_Device_done := n_Device_done, n_Device_most := n_Device_most, cl_KeyTree := ⟨pg_KeyTree, hd_KeyTree, po_KeyTree, sa_KeyTree⟩, mk_KeyTree := ⟨mk_KeyTree, kc_KeyTree⟩, mg_KeyTree := PySem.W.mg_of X G aC_KeyTree, n_KeyTree_pager := n_KeyTree_pager, n_KeyTree_root := n_KeyTree_root, n_KeyTree_dimensions := n_KeyTree_dimensions, cl_Pager := ⟨pg_Pager, hd_Pager, po_Pager, sa_Pager⟩, mk_Pager := ⟨mk_Pager, kc_Pager⟩, mg_Pager := PySem.W.mg_of X G aC_Pager, n_Pager_device := n_Pager_device, n_Pager_committed := n_Pager_committed, n_Pager_dirty := n_Pager_dirty, ex_VaultError := ⟨PySem.W.mg_of X G aC_VaultError, xx_VaultError, xk_VaultError, xb_VaultError, xt_VaultError, xi_VaultError, xs_VaultError⟩, ex_PowerCut := ⟨PySem.W.mg_of X G aC_PowerCut, xx_PowerCut, xk_PowerCut, xb_PowerCut, xt_PowerCut, xi_PowerCut, xs_PowerCut⟩ }
  have e := hfa.symm.trans (PySem.W.mg_of X G a71)
  cases e
  refine ⟨PySem.W.fnOf "law" "law" (defArgs s_law) (defBody s_law) (defScope s_law) .none kV71 dc71 pm71 an71 cd71 ct71, fun s v => .of_eq rfl, fun base _ _ => ?_⟩
  exact ok_law (fun_mk (st := s_law) l71 c71 k71) T
theorem walk {l : PySem.W.OpenLaw} {q : Program} {loose : List Str} {XP : (Str → Option Value) → Heap → Prop} {YP : World → Heap → Prop} {d : DefRec} {K : Params → PySem.W.Frag} (hn : l.most = some 63) (hdf : d.params.defaults = [])
    (hY : ∀ (w : World) (h : Heap), YP w h → (K w.params).In h)
    (F : ∀ (w : World) (mg : Str → Option Value) (fa : Addr) (h : Heap), (K w.params).In h → h.Ns mainGlobals mg → mg d.name = some (.ref fa) →
      ∃ fd : FuncData, (∀ (s : Shared) (u : Value), BindsTo s fd ⟨[u], []⟩ [("_law_script", u)]) ∧ ∀ base : Heap, (K w.params).In base → base.Ns mainGlobals mg → FnOk l.prog w (K w.params) mg base CX0 181 fa fd ["_law_script"] (sp_law (K w.params))) :
    PySem.W.WalkO q loose XP YP l.row.toRowW d [] (fun f vs => PySem.call f vs) :=
  L2.walk_of (n := 63) (k := 181) (x := "_law_script") (CX := fun _ => CX0) (sp := fun w => sp_law (K w.params)) hn (by decide) hdf ⟨rfl, by decide, by decide⟩ hY F (fun _ _ a ns hl hO hS => ⟨a, ns, rfl, Sc.of hO hS, hl, fun _ => rfl⟩) fun _ _ _ _ _ z => z
end NV
open PySem PySem.W PyProof.Rows
set_option maxRecDepth 100000 in
set_option maxHeartbeats 0 in
theorem PySem.Challenge.cw_nearvault_k17_pages_of_key_trees_holds : PySem.Challenge.rw_nearvault_k17_pages_of_key_trees.Holds := by
  w_on; o_law; k_head; (case hw => w_witness2)
  k_fill
  refine NV.walk (l := PySem.Challenge.rw_nearvault_k17_pages_of_key_trees) rfl rfl (fun w h Y => PySem.W.kIn_of Y) ?F
  case F =>
    intro w mg fa h KX G hmg
    refine' NV.all_mk KX G hmg ?aC_VaultError ?aC_PowerCut ?aC_Device ?aC_KeyTree ?aC_Pager ?a1 ?l1 ?c1 ?k1 ?a2 ?i2 ?l2 ?c2 ?k2 ?a3 ?i3 ?l3 ?c3 ?k3 ?a4 ?i4 ?l4 ?c4 ?k4 ?a5 ?i5 ?l5 ?c5 ?k5 ?a6 ?i6 ?l6 ?c6 ?k6 ?a7 ?i7 ?l7 ?c7 ?k7 ?a8 ?i8 ?l8 ?c8 ?k8 ?a9 ?i9 ?l9 ?c9 ?k9 ?a10 ?i10 ?l10 ?c10 ?k10 ?a11 ?i11 ?l11 ?c11 ?k11 ?a12 ?i12 ?l12 ?c12 ?k12 ?a13 ?i13 ?l13 ?c13 ?k13 ?a14 ?i14 ?l14 ?c14 ?k14 ?a15 ?i15 ?l15 ?c15 ?k15 ?a16 ?l16 ?c16 ?k16 ?a17 ?l17 ?c17 ?k17 ?a18 ?l18 ?c18 ?k18 ?a19 ?l19 ?c19 ?k19 ?a20 ?l20 ?c20 ?k20 ?a21 ?l21 ?c21 ?k21 ?a22 ?i22 ?l22 ?c22 ?k22 ?a23 ?i23 ?l23 ?c23 ?k23 ?a24 ?i24 ?l24 ?c24 ?k24 ?a25 ?i25 ?l25 ?c25 ?k25 ?a26 ?i26 ?l26 ?c26 ?k26 ?a27 ?i27 ?l27 ?c27 ?k27 ?a28 ?i28 ?l28 ?c28 ?k28 ?a29 ?i29 ?l29 ?c29 ?k29 ?a30 ?i30 ?l30 ?c30 ?k30 ?a31 ?i31 ?l31 ?c31 ?k31 ?a32 ?i32 ?l32 ?c32 ?k32 ?a33 ?i33 ?l33 ?c33 ?k33 ?a34 ?i34 ?l34 ?c34 ?k34 ?a35 ?i35 ?l35 ?c35 ?k35 ?a36 ?i36 ?l36 ?c36 ?k36 ?a37 ?i37 ?l37 ?c37 ?k37 ?a38 ?i38 ?l38 ?c38 ?k38 ?a39 ?l39 ?c39 ?k39 ?a40 ?i40 ?l40 ?c40 ?k40 ?a41 ?i41 ?l41 ?c41 ?k41 ?a42 ?i42 ?l42 ?c42 ?k42 ?a43 ?i43 ?l43 ?c43 ?k43 ?a44 ?i44 ?l44 ?c44 ?k44 ?a45 ?i45 ?l45 ?c45 ?k45 ?a46 ?i46 ?l46 ?c46 ?k46 ?a47 ?i47 ?l47 ?c47 ?k47 ?a48 ?i48 ?l48 ?c48 ?k48 ?a49 ?i49 ?l49 ?c49 ?k49 ?a50 ?i50 ?l50 ?c50 ?k50 ?a51 ?l51 ?c51 ?k51 ?a52 ?l52 ?c52 ?k52 ?a53 ?l53 ?c53 ?k53 ?a54 ?l54 ?c54 ?k54 ?a55 ?l55 ?c55 ?k55 ?a56 ?l56 ?c56 ?k56 ?a57 ?l57 ?c57 ?k57 ?a58 ?l58 ?c58 ?k58 ?a59 ?l59 ?c59 ?k59 ?a60 ?l60 ?c60 ?k60 ?a61 ?l61 ?c61 ?k61 ?a62 ?l62 ?c62 ?k62 ?a63 ?l63 ?c63 ?k63 ?a64 ?l64 ?c64 ?k64 ?a65 ?l65 ?c65 ?k65 ?a66 ?l66 ?c66 ?k66 ?a67 ?l67 ?c67 ?k67 ?a68 ?l68 ?c68 ?k68 ?a69 ?l69 ?c69 ?k69 ?a70 ?l70 ?c70 ?k70 ?a71 ?l71 ?c71 ?k71 ?g_PAGE_SIZE ?g_OFFSET ?g_LEAF ?g_INNER ?g_MOST_CHILDREN ?g_CHILD_SIZE ?g_NUMBER_SIZE ?g_FIELD_SIZE ?g_PAGES ?g_FREE ?z_ValueError ?z_int ?z_len ?z_list ?z_range ?z_reversed ?z_sorted ?z_sum ?z_tuple ?pg_Device ?hd_Device ?po_Device ?sa_Device ?mk_Device ?kc_Device ?n_Device_pages ?n_Device_page_writes ?n_Device_durable_log ?n_Device_log_steps ?n_Device_done ?n_Device_most ?pg_KeyTree ?hd_KeyTree ?po_KeyTree ?sa_KeyTree ?mk_KeyTree ?kc_KeyTree ?n_KeyTree_pager ?n_KeyTree_root ?n_KeyTree_dimensions ?pg_Pager ?hd_Pager ?po_Pager ?sa_Pager ?mk_Pager ?kc_Pager ?n_Pager_device ?n_Pager_committed ?n_Pager_dirty ?xx_VaultError ?xk_VaultError ?xb_VaultError ?xt_VaultError ?xi_VaultError ?xs_VaultError ?xx_PowerCut ?xk_PowerCut ?xb_PowerCut ?xt_PowerCut ?xi_PowerCut ?xs_PowerCut
    (case aC_VaultError => k_is)
    (case aC_PowerCut => k_is)
    (case aC_Device => k_is)
    (case aC_KeyTree => k_is)
    (case aC_Pager => k_is)
    (case a1 => k_is)
    (case l1 => k_is)
    (case c1 => k_is)
    (case k1 => k_is)
    (case a2 => k_is)
    (case i2 => k_is)
    (case l2 => k_is)
    (case c2 => k_is)
    (case k2 => k_is)
    (case a3 => k_is)
    (case i3 => k_is)
    (case l3 => k_is)
    (case c3 => k_is)
    (case k3 => k_is)
    (case a4 => k_is)
    (case i4 => k_is)
    (case l4 => k_is)
    (case c4 => k_is)
    (case k4 => k_is)
    (case a5 => k_is)
    (case i5 => k_is)
    (case l5 => k_is)
    (case c5 => k_is)
    (case k5 => k_is)
    (case a6 => k_is)
    (case i6 => k_is)
    (case l6 => k_is)
    (case c6 => k_is)
    (case k6 => k_is)
    (case a7 => k_is)
    (case i7 => k_is)
    (case l7 => k_is)
    (case c7 => k_is)
    (case k7 => k_is)
    (case a8 => k_is)
    (case i8 => k_is)
    (case l8 => k_is)
    (case c8 => k_is)
    (case k8 => k_is)
    (case a9 => k_is)
    (case i9 => k_is)
    (case l9 => k_is)
    (case c9 => k_is)
    (case k9 => k_is)
    (case a10 => k_is)
    (case i10 => k_is)
    (case l10 => k_is)
    (case c10 => k_is)
    (case k10 => k_is)
    (case a11 => k_is)
    (case i11 => k_is)
    (case l11 => k_is)
    (case c11 => k_is)
    (case k11 => k_is)
    (case a12 => k_is)
    (case i12 => k_is)
    (case l12 => k_is)
    (case c12 => k_is)
    (case k12 => k_is)
    (case a13 => k_is)
    (case i13 => k_is)
    (case l13 => k_is)
    (case c13 => k_is)
    (case k13 => k_is)
    (case a14 => k_is)
    (case i14 => k_is)
    (case l14 => k_is)
    (case c14 => k_is)
    (case k14 => k_is)
    (case a15 => k_is)
    (case i15 => k_is)
    (case l15 => k_is)
    (case c15 => k_is)
    (case k15 => k_is)
    (case a16 => k_is)
    (case l16 => k_is)
    (case c16 => k_is)
    (case k16 => k_is)
    (case a17 => k_is)
    (case l17 => k_is)
    (case c17 => k_is)
    (case k17 => k_is)
    (case a18 => k_is)
    (case l18 => k_is)
    (case c18 => k_is)
    (case k18 => k_is)
    (case a19 => k_is)
    (case l19 => k_is)
    (case c19 => k_is)
    (case k19 => k_is)
    (case a20 => k_is)
    (case l20 => k_is)
    (case c20 => k_is)
    (case k20 => k_is)
    (case a21 => k_is)
    (case l21 => k_is)
    (case c21 => k_is)
    (case k21 => k_is)
    (case a22 => k_is)
    (case i22 => k_is)
    (case l22 => k_is)
    (case c22 => k_is)
    (case k22 => k_is)
    (case a23 => k_is)
    (case i23 => k_is)
    (case l23 => k_is)
    (case c23 => k_is)
    (case k23 => k_is)
    (case a24 => k_is)
    (case i24 => k_is)
    (case l24 => k_is)
    (case c24 => k_is)
    (case k24 => k_is)
    (case a25 => k_is)
    (case i25 => k_is)
    (case l25 => k_is)
    (case c25 => k_is)
    (case k25 => k_is)
    (case a26 => k_is)
    (case i26 => k_is)
    (case l26 => k_is)
    (case c26 => k_is)
    (case k26 => k_is)
    (case a27 => k_is)
    (case i27 => k_is)
    (case l27 => k_is)
    (case c27 => k_is)
    (case k27 => k_is)
    (case a28 => k_is)
    (case i28 => k_is)
    (case l28 => k_is)
    (case c28 => k_is)
    (case k28 => k_is)
    (case a29 => k_is)
    (case i29 => k_is)
    (case l29 => k_is)
    (case c29 => k_is)
    (case k29 => k_is)
    (case a30 => k_is)
    (case i30 => k_is)
    (case l30 => k_is)
    (case c30 => k_is)
    (case k30 => k_is)
    (case a31 => k_is)
    (case i31 => k_is)
    (case l31 => k_is)
    (case c31 => k_is)
    (case k31 => k_is)
    (case a32 => k_is)
    (case i32 => k_is)
    (case l32 => k_is)
    (case c32 => k_is)
    (case k32 => k_is)
    (case a33 => k_is)
    (case i33 => k_is)
    (case l33 => k_is)
    (case c33 => k_is)
    (case k33 => k_is)
    (case a34 => k_is)
    (case i34 => k_is)
    (case l34 => k_is)
    (case c34 => k_is)
    (case k34 => k_is)
    (case a35 => k_is)
    (case i35 => k_is)
    (case l35 => k_is)
    (case c35 => k_is)
    (case k35 => k_is)
    (case a36 => k_is)
    (case i36 => k_is)
    (case l36 => k_is)
    (case c36 => k_is)
    (case k36 => k_is)
    (case a37 => k_is)
    (case i37 => k_is)
    (case l37 => k_is)
    (case c37 => k_is)
    (case k37 => k_is)
    (case a38 => k_is)
    (case i38 => k_is)
    (case l38 => k_is)
    (case c38 => k_is)
    (case k38 => k_is)
    (case a39 => k_is)
    (case l39 => k_is)
    (case c39 => k_is)
    (case k39 => k_is)
    (case a40 => k_is)
    (case i40 => k_is)
    (case l40 => k_is)
    (case c40 => k_is)
    (case k40 => k_is)
    (case a41 => k_is)
    (case i41 => k_is)
    (case l41 => k_is)
    (case c41 => k_is)
    (case k41 => k_is)
    (case a42 => k_is)
    (case i42 => k_is)
    (case l42 => k_is)
    (case c42 => k_is)
    (case k42 => k_is)
    (case a43 => k_is)
    (case i43 => k_is)
    (case l43 => k_is)
    (case c43 => k_is)
    (case k43 => k_is)
    (case a44 => k_is)
    (case i44 => k_is)
    (case l44 => k_is)
    (case c44 => k_is)
    (case k44 => k_is)
    (case a45 => k_is)
    (case i45 => k_is)
    (case l45 => k_is)
    (case c45 => k_is)
    (case k45 => k_is)
    (case a46 => k_is)
    (case i46 => k_is)
    (case l46 => k_is)
    (case c46 => k_is)
    (case k46 => k_is)
    (case a47 => k_is)
    (case i47 => k_is)
    (case l47 => k_is)
    (case c47 => k_is)
    (case k47 => k_is)
    (case a48 => k_is)
    (case i48 => k_is)
    (case l48 => k_is)
    (case c48 => k_is)
    (case k48 => k_is)
    (case a49 => k_is)
    (case i49 => k_is)
    (case l49 => k_is)
    (case c49 => k_is)
    (case k49 => k_is)
    (case a50 => k_is)
    (case i50 => k_is)
    (case l50 => k_is)
    (case c50 => k_is)
    (case k50 => k_is)
    (case a51 => k_is)
    (case l51 => k_is)
    (case c51 => k_is)
    (case k51 => k_is)
    (case a52 => k_is)
    (case l52 => k_is)
    (case c52 => k_is)
    (case k52 => k_is)
    (case a53 => k_is)
    (case l53 => k_is)
    (case c53 => k_is)
    (case k53 => k_is)
    (case a54 => k_is)
    (case l54 => k_is)
    (case c54 => k_is)
    (case k54 => k_is)
    (case a55 => k_is)
    (case l55 => k_is)
    (case c55 => k_is)
    (case k55 => k_is)
    (case a56 => k_is)
    (case l56 => k_is)
    (case c56 => k_is)
    (case k56 => k_is)
    (case a57 => k_is)
    (case l57 => k_is)
    (case c57 => k_is)
    (case k57 => k_is)
    (case a58 => k_is)
    (case l58 => k_is)
    (case c58 => k_is)
    (case k58 => k_is)
    (case a59 => k_is)
    (case l59 => k_is)
    (case c59 => k_is)
    (case k59 => k_is)
    (case a60 => k_is)
    (case l60 => k_is)
    (case c60 => k_is)
    (case k60 => k_is)
    (case a61 => k_is)
    (case l61 => k_is)
    (case c61 => k_is)
    (case k61 => k_is)
    (case a62 => k_is)
    (case l62 => k_is)
    (case c62 => k_is)
    (case k62 => k_is)
    (case a63 => k_is)
    (case l63 => k_is)
    (case c63 => k_is)
    (case k63 => k_is)
    (case a64 => k_is)
    (case l64 => k_is)
    (case c64 => k_is)
    (case k64 => k_is)
    (case a65 => k_is)
    (case l65 => k_is)
    (case c65 => k_is)
    (case k65 => k_is)
    (case a66 => k_is)
    (case l66 => k_is)
    (case c66 => k_is)
    (case k66 => k_is)
    (case a67 => k_is)
    (case l67 => k_is)
    (case c67 => k_is)
    (case k67 => k_is)
    (case a68 => k_is)
    (case l68 => k_is)
    (case c68 => k_is)
    (case k68 => k_is)
    (case a69 => k_is)
    (case l69 => k_is)
    (case c69 => k_is)
    (case k69 => k_is)
    (case a70 => k_is)
    (case l70 => k_is)
    (case c70 => k_is)
    (case k70 => k_is)
    (case a71 => k_is)
    (case l71 => k_is)
    (case c71 => k_is)
    (case k71 => k_is)
    (case g_PAGE_SIZE => k_is)
    (case g_OFFSET => k_is)
    (case g_LEAF => k_is)
    (case g_INNER => k_is)
    (case g_MOST_CHILDREN => k_is)
    (case g_CHILD_SIZE => k_is)
    (case g_NUMBER_SIZE => k_is)
    (case g_FIELD_SIZE => k_is)
    (case g_PAGES => k_is)
    (case g_FREE => k_is)
    (case z_ValueError => k_is)
    (case z_int => k_is)
    (case z_len => k_is)
    (case z_list => k_is)
    (case z_range => k_is)
    (case z_reversed => k_is)
    (case z_sorted => k_is)
    (case z_sum => k_is)
    (case z_tuple => k_is)
    (case pg_Device => k_is)
    (case hd_Device => k_is)
    (case po_Device => k_is)
    (case sa_Device => k_is)
    (case mk_Device => k_is)
    (case kc_Device => k_is)
    (case n_Device_pages => k_is)
    (case n_Device_page_writes => k_is)
    (case n_Device_durable_log => k_is)
    (case n_Device_log_steps => k_is)
    (case n_Device_done => k_is)
    (case n_Device_most => k_is)
    (case pg_KeyTree => k_is)
    (case hd_KeyTree => k_is)
    (case po_KeyTree => k_is)
    (case sa_KeyTree => k_is)
    (case mk_KeyTree => k_is)
    (case kc_KeyTree => k_is)
    (case n_KeyTree_pager => k_is)
    (case n_KeyTree_root => k_is)
    (case n_KeyTree_dimensions => k_is)
    (case pg_Pager => k_is)
    (case hd_Pager => k_is)
    (case po_Pager => k_is)
    (case sa_Pager => k_is)
    (case mk_Pager => k_is)
    (case kc_Pager => k_is)
    (case n_Pager_device => k_is)
    (case n_Pager_committed => k_is)
    (case n_Pager_dirty => k_is)
    (case xx_VaultError => k_exc)
    (case xk_VaultError => k_is)
    (case xb_VaultError => k_is)
    (case xt_VaultError => k_is)
    (case xi_VaultError => k_is)
    (case xs_VaultError => (first | rfl | k_is))
    (case xx_PowerCut => k_exc)
    (case xk_PowerCut => k_is)
    (case xb_PowerCut => k_is)
    (case xt_PowerCut => k_is)
    (case xi_PowerCut => k_is)
    (case xs_PowerCut => (first | rfl | k_is))
