import PyProof.Rows.All
import Wide.All
import OpenK.AllK
import Wide.FinOn
import HandS.ForMost
import HandS.ForExc
import HandS.Wide
import HandS.IsInst
import HandS.More
import HandS.RevRange
import HandS.TupAny
import HandS.TupLe
import HandS.SortInts
import HandS.Small
import HandS.Codes
import HandS.WideBits
import HandS.ExcIs
import HandS.SetFor
import HandS.DeepEq
import HandS.HotCalls
import HandS.SuiteRaise
import PySem.Challenge.RW_nearvault_k06_whole_pagers_and_power
set_option Elab.async false
set_option linter.all false
set_option maxRecDepth 100000
set_option maxHeartbeats 4000000
/-! Nearvault: what all claims share. -/
namespace NV
open PySem L2

/-! ### packaged callables -/
section
variable (P : Program) (w : World) (K : PySem.W.Frag) (mg : Str → Option Value) (base : Heap)
/-- the def that the module's name x holds keeps its promise -/
def GF (CX : CXT) (k : Nat) (x : Str) (sp : Sp) : Prop := ∃ f fd ps, FnOk P w K mg base CX k f fd ps sp ∧ mg x = some (.ref f) ∧ PySem.W.keepIn K (.ref f) = true ∧ Binds K fd ps []
/-- the method m of the class at C -/
def GM (CX : CXT) (k : Nat) (C : Addr) (m : Str) (sp : Sp) : Prop := ∃ f fd ps, FnOk P w K mg base CX k f fd ps sp ∧ Meth K C m f ∧ Binds K fd ps []
/-- the class at C by its __init__ -/
def GC (CX : CXT) (k : Nat) (x : Str) (C : Addr) (sp : Sp) : Prop := ∃ f fd ps, FnOk P w K mg base CX k f fd ps sp ∧ Mk K C f ∧ mg x = some (.ref C) ∧ Binds K fd ps []
end

section
variable {X : Cx} {CX : CXT} {k : Nat} {x : Str} {sp : Sp} {E : L2.St → XK} {p pos apos : Pos} {e o : Expr} {es : List Expr} {t : TA} {ta : TE} {C : Addr} {m : Str} {pl : Sem Bool}
theorem pass0S : ∀ σ, PassesAt CX0 X σ ((fun _ => E0) σ) := fun _ _ _ _ _ _ _ h => h.elim
theorem passN : ∀ σ, PassesAt (L2.CX X.prog X.w) X σ ((fun _ => E0) σ) := fun σ pins H s e s' I c => passL pins σ H s e s' I c
theorem pe_g (G : GF X.prog X.w X.K X.mg X.base CX k x sp) (hr : Room k X.A) (hx : ∀ σ, PassesAt CX X σ (E σ)) (ha : PA X (e :: es) t) (hg : Gl X x := by rfl)
    (hdb : (x == ("__debug__" : Str)) = false := by decide) (he : starEach (e :: es) X.env = (false, eval e X.env) :: starEach es X.env := by rfl) (hpl : (backTo pos (starEach es X.env)).any (·.1) = false := by rfl) :
    PE X (.Call (.Name x p) (e :: es) [] pos) (tCallS sp E t) := by
  obtain ⟨f, fd, ps, F, hm, hk, hb⟩ := G
  exact pe_callS F hr hg hm hk hb hx ha hdb he hpl
theorem pe_g0 (G : GF X.prog X.w X.K X.mg X.base CX k x sp) (hr : Room k X.A) (hx : ∀ σ, PassesAt CX X σ (E σ)) (hg : Gl X x := by rfl)
    (hdb : (x == ("__debug__" : Str)) = false := by decide) : PE X (.Call (.Name x p) [] [] pos) (tCallS sp E tNil) := by
  obtain ⟨f, fd, ps, F, hm, hk, hb⟩ := G
  refine ⟨fun pins s σ H Q I h => wpAny_Call_Name_kw (ld_glob I hg hm ?_ hdb)⟩
  exact PySem.W.callWith_K0 I.kIn hk (run_fnS (us := []) F hr hb (hx σ) I .nil h)
/-- o.m(e, ..), what is raised wished for at the caller's slots -/
def tMethS (C : Addr) (m : Str) (sp : Sp) (E : L2.St → XK) (ta : TE) (t : TA) : TE := fun σ H Q => ta σ H fun x H1 => ∃ a dx fs, x = .ref a ∧ H1 a = some (.ins C dx fs) ∧ fs.lookup m = none ∧ t σ H1 fun vs H2 => sp (.ref a :: vs) H2 Q (E σ)
theorem pe_gm (c : Cls X.K C) (G : GM X.prog X.w X.K X.mg X.base CX k C m sp) (ho : PE X o ta) (hr : Room k X.A) (hx : ∀ σ, PassesAt CX X σ (E σ)) (ha : PA X (e :: es) t)
    (he : starEach (e :: es) X.env = (false, eval e X.env) :: starEach es X.env := by rfl) (hpl : (backTo pos (starEach es X.env)).any (·.1) = false := by rfl)
    (ht : eval (.Call (.Attribute o m apos) (e :: es) [] pos) X.env = (do
      let ov ← eval o X.env; standAt apos.atName; let (f, first) ← holding [ov] (getMethod ov m pl); callWith pos f first (backTo pos (starEach (e :: es) X.env)) (backToKw pos (keywordEach [] X.env))) := by rfl) :
    PE X (.Call (.Attribute o m apos) (e :: es) [] pos) (tMethS C m sp E ta t) := by
  obtain ⟨f, fd, ps, F, hm, hb⟩ := G
  refine ⟨fun pins s σ H Q I h => PySem.W.methodCall_KW (pl := pl) (thn (ho.run pins s σ H _ I h) fun u s1 ⟨y, H1, I1, ry, a, dx, fs, ey, ea, l, q⟩ => ?_) ht⟩
  subst ey
  cases (show u = Value.ref a from ry)
  refine getmeth_ok I1 ea c hm l (PySem.W.callWith_K (first := [.ref a]) (h₀ := X.base) I.ok.mod.kin hm.kp (thn (ha.run pos pins s1 σ H1 _ I1 q) fun us s2 ⟨vs, H2, I2, r, q2⟩ => ⟨I2.kIn, ?_⟩) he hpl)
  exact run_fnS (us := .ref a :: us) (vs := .ref a :: vs) F hr hb (hx σ) I2 (.cons rfl r) q2
theorem pe_gm0 (c : Cls X.K C) (G : GM X.prog X.w X.K X.mg X.base CX k C m sp) (ho : PE X o ta) (hr : Room k X.A) (hx : ∀ σ, PassesAt CX X σ (E σ))
    (ht : eval (.Call (.Attribute o m apos) [] [] pos) X.env = (do
      let ov ← eval o X.env; standAt apos.atName; let (f, first) ← holding [ov] (getMethod ov m pl); callWith pos f first (backTo pos (starEach [] X.env)) (backToKw pos (keywordEach [] X.env))) := by rfl) :
    PE X (.Call (.Attribute o m apos) [] [] pos) (tMethS C m sp E ta tNil) := by
  obtain ⟨f, fd, ps, F, hm, hb⟩ := G
  refine ⟨fun pins s σ H Q I h => PySem.W.methodCall_KW (pl := pl) (thn (ho.run pins s σ H _ I h) fun u s1 ⟨y, H1, I1, ry, a, dx, fs, ey, ea, l, q⟩ => ?_) ht⟩
  subst ey
  cases (show u = Value.ref a from ry)
  exact getmeth_ok I1 ea c hm l (PySem.W.callWith_K0 (first := [.ref a]) I1.kIn hm.kp (run_fnS (us := [.ref a]) (vs := [.ref a]) F hr hb (hx σ) I1 (.cons rfl .nil) q))
/-- C(e, ..), what is raised wished for at the caller's slots -/
def tMakeS (C : Addr) (sp : Sp) (E : L2.St → XK) (t : TA) : TE := fun σ H Q => t σ H fun vs H1 => ∀ x dx, H1 x = none → H1 dx = none → dx ≠ x →
  sp (.ref x :: vs) (upd (upd H1 dx (.own x)) x (.ins C dx [])) (fun v H2 => v = .non ∧ Q (.ref x) H2) (E σ)
theorem run_mkS {pins : List (Addr × Obj)} {σ : L2.St} {H : Hp} {s : Shared} {Q : VK} {us : List Value} {vs : List V} {f : Addr} {fd : FuncData} {ps : List Str} (M : Mk X.K C f) (F : FnOk X.prog X.w X.K X.mg X.base CX k f fd ps sp)
    (hr : Room (k + 1) X.A) (hb : Binds X.K fd ps []) (hx : PassesAt CX X σ (E σ)) (I : Inv X pins σ H s) (r : Vals vs us)
    (h : ∀ x dx, H x = none → H dx = none → dx ≠ x → sp (.ref x :: vs) (upd (upd H dx (.own x)) x (.ins C dx [])) (fun v H2 => v = .non ∧ Q (.ref x) H2) (E σ)) :
    wpAny (model X.prog X.w) X.A (call (.ref C) us) (EP X pins σ Q) X.xe s := by
  have z := h (s.heap.objs.size + 1) s.heap.objs.size (I.hok.fresh (Nat.le_succ _)) (I.hok.fresh (Nat.le_refl _)) (Nat.ne_of_lt (Nat.lt_succ_self _))
  have J := Inv.made (C := C) I
  have rr : Vals (V.ref (s.heap.objs.size + 1) :: vs) (Value.ref (s.heap.objs.size + 1) :: us) := .cons rfl r
  have len : (Value.ref (s.heap.objs.size + 1) :: us).length = ps.length := rr.length.symm.trans (F.len _ _ _ _ z)
  have b := hb _ (Value.ref (s.heap.objs.size + 1) :: us) J.kIn (by rw [List.append_nil]; exact len)
  rw [List.append_nil] at b
  refine wpAny_call (make_map (f := f) I.kIn M.makes M.init (beq_iff_eq.mp M.fn) (codeAny_mono (F.run _ X.stack _ _ _ _ _ _ _ (hr.make C us []) (J.env0.make C us []) b rr z) fun res s' hq => ?_))
  cases res with
  | error e => exact hx pins _ _ e s' J hq
  | ok fl =>
    cases fl with
    | ret u =>
      obtain ⟨v, H', I3, rv, ev, q3⟩ := J.after hq
      subst ev
      exact ⟨rv, V.ref (s.heap.objs.size + 1), H', I3, rfl, q3⟩
    | next => cases hq
    | brk => cases hq
    | cont => cases hq
theorem pe_gc (G : GC X.prog X.w X.K X.mg X.base CX k x C sp) (hr : Room (k + 1) X.A) (hx : ∀ σ, PassesAt CX X σ (E σ)) (ha : PA X (e :: es) t) (hg : Gl X x := by rfl)
    (hdb : (x == ("__debug__" : Str)) = false := by decide) (he : starEach (e :: es) X.env = (false, eval e X.env) :: starEach es X.env := by rfl) (hpl : (backTo pos (starEach es X.env)).any (·.1) = false := by rfl) :
    PE X (.Call (.Name x p) (e :: es) [] pos) (tMakeS C sp E t) := by
  obtain ⟨f, fd, ps, F, M, hm, hb⟩ := G
  refine ⟨fun pins s σ H Q I h => wpAny_Call_Name_kw (ld_glob I hg hm ?_ hdb)⟩
  exact PySem.W.callWith_K (h₀ := X.base) I.ok.mod.kin M.kp (thn (ha.run pos pins s σ H _ I h) fun us s1 ⟨vs, H1, I1, r, q⟩ => ⟨I1.kIn, run_mkS M F hr hb (hx σ) I1 r q⟩) he hpl
theorem pe_gc0 (G : GC X.prog X.w X.K X.mg X.base CX k x C sp) (hr : Room (k + 1) X.A) (hx : ∀ σ, PassesAt CX X σ (E σ)) (hg : Gl X x := by rfl)
    (hdb : (x == ("__debug__" : Str)) = false := by decide) : PE X (.Call (.Name x p) [] [] pos) (tMakeS C sp E tNil) := by
  obtain ⟨f, fd, ps, F, M, hm, hb⟩ := G
  refine ⟨fun pins s σ H Q I h => wpAny_Call_Name_kw (ld_glob I hg hm ?_ hdb)⟩
  exact PySem.W.callWith_K0 I.kIn M.kp (run_mkS (us := []) M F hr hb (hx σ) I .nil h)
end

/-! ### heaps: what a step keeps -/
/-- what never changes -/
def Fix : HO → Prop
  | .tup _ => True
  | .frz _ _ => True
  | _ => False
/-- all that was tracked is as it was, but at F (where what never changes is kept too) -/
def Kp (F : Addr → Prop) (H H' : Hp) : Prop := ∀ b o, H b = some o → (F b → Fix o) → H' b = some o
abbrev F0 : Addr → Prop := fun _ => False
abbrev F1 (a : Addr) : Addr → Prop := fun b => b = a
theorem Kp.refl {F : Addr → Prop} (H : Hp) : Kp F H H := fun _ _ h _ => h
theorem Kp.get {F : Addr → Prop} {H H' : Hp} {b : Addr} {o : HO} (s : Kp F H H') (h : H b = some o) (n : ¬ F b) : H' b = some o := s b o h fun z => (n z).elim
theorem Kp.fix {F : Addr → Prop} {H H' : Hp} {b : Addr} {o : HO} (s : Kp F H H') (h : H b = some o) (n : Fix o) : H' b = some o := s b o h fun _ => n
theorem Kp.tup {F : Addr → Prop} {H H' : Hp} {b : Addr} {xs : List V} (s : Kp F H H') (h : H b = some (.tup xs)) : H' b = some (.tup xs) := s.fix h trivial
theorem Kp.free {F : Addr → Prop} {H H' : Hp} {b : Addr} (s : Kp F H H') (h : H' b = none) (n : ¬ F b) : H b = none := by
  cases e : H b with
  | none => rfl
  | some o => rw [s.get e n] at h; cases h
theorem Kp.mono {F G : Addr → Prop} {H H' : Hp} (s : Kp F H H') (h : ∀ b, F b → G b ∨ H b = none) : Kp G H H' := fun b o e n => s b o e fun f => by
  rcases h b f with g | g
  · exact n g
  · rw [e] at g; cases g
theorem Kp.trans {F G : Addr → Prop} {H H1 H2 : Hp} (s : Kp F H H1) (t : Kp G H1 H2) (h : ∀ b, G b → F b ∨ H b = none) : Kp F H H2 := fun b o e n =>
  t b o (s b o e n) fun g => by
    rcases h b g with f | f
    · exact n f
    · rw [e] at f; cases f
theorem Kp.new {H : Hp} {p : Addr} {o : HO} (h : H p = none) : Kp F0 H (upd H p o) := fun b u e _ => by
  rw [upd_ne (ne_of_none e h)]
  exact e
theorem Kp.put {H : Hp} {l : Addr} {o u : HO} (h : H l = some u) (n : ¬ Fix u) : Kp (F1 l) H (upd H l o) := fun b v e k => by
  have nb : b ≠ l := fun z => by
    subst z; rw [h] at e; cases e
    exact n (k rfl)
  rw [upd_ne nb]
  exact e
theorem upd_id {H : Hp} {a : Addr} {o : HO} (h : H a = some o) : upd H a o = H := by
  funext b; unfold upd
  by_cases e : b = a
  · rw [if_pos e, e, h]
  · rw [if_neg e]
theorem Kp.same {H H' : Hp} (s : Same H H') : Kp F0 H H' := fun b o e _ => s b o e
theorem Kp.to_same {H H' : Hp} (s : Kp F0 H H') : Same H H' := fun b o e => s b o e fun z => z.elim
theorem Kp.sqT {F : Addr → Prop} {K : PySem.W.Frag} {H H' : Hp} {a : Addr} {xs : List V} (s : Kp F H H') (h : SqT K H a xs) : SqT K H' a xs := by
  rcases h with (h | ⟨o, h⟩) | h
  · exact .inl (.inl (s.fix h trivial))
  · exact .inl (.inr ⟨o, s.fix h trivial⟩)
  · exact .inr h
theorem Kp.sqL {F : Addr → Prop} {K : PySem.W.Frag} {H H' : Hp} {a : Addr} {xs : List V} (s : Kp F H H') (h : SqL K H a xs) (n : ¬ F a) : SqL K H' a xs := by
  rcases h with (h | ⟨o, h⟩) | h
  · exact .inl (.inl (s.get h n))
  · exact .inl (.inr ⟨o, s.fix h trivial⟩)
  · exact .inr h

/-- the script: read, never written -/
def Sc (K : PySem.W.Frag) (H : Hp) (sc : Addr) (ns : List Int) : Prop := (∃ o, H sc = some (.frz o (.lst (ns.map V.int)))) ∨ ∀ H', SqL K H' sc (ns.map V.int)
theorem Sc.sq {K : PySem.W.Frag} {H : Hp} {sc : Addr} {ns : List Int} (h : Sc K H sc ns) : SqL K H sc (ns.map V.int) := by
  rcases h with ⟨o, h⟩ | h
  · exact .inl (.inr ⟨o, h⟩)
  · exact h H
theorem Sc.kp {K : PySem.W.Frag} {F : Addr → Prop} {H H' : Hp} {sc : Addr} {ns : List Int} (s : Kp F H H') (h : Sc K H sc ns) : Sc K H' sc ns := by
  rcases h with ⟨o, h⟩ | h
  · exact .inl ⟨o, s.fix h trivial⟩
  · exact .inr h

theorem Sc.of {K : PySem.W.Frag} {H : Hp} {a : Addr} {ns : List Int} (o : Only H) (h : SqL K H a (ns.map V.int)) : Sc K H a ns := by
  rcases h with (h | ⟨f, h⟩) | h
  · rcases o a with e | ⟨f, xs, e⟩
    · rw [h] at e; cases e
    · rw [h] at e; cases e
  · exact .inl ⟨f, h⟩
  · exact .inr fun _ => .inr h
/-- a new list, a new tuple -/
def rNewL (xs : List V) (H : Hp) (Q : VK) : Prop := xs.length ≤ sizeLine ∧ ∀ p, H p = none → Q (.ref p) (upd H p (.lst xs))
def rNewT (xs : List V) (H : Hp) (Q : VK) : Prop := xs.length ≤ sizeLine ∧ ∀ p, H p = none → Q (.ref p) (upd H p (.tup xs))

/-! ### readings under names of our own, and the steps that run them -/
section
variable {K : PySem.W.Frag} {σ : L2.St} {H : Hp} {Q : VK} {D : Ends} {ta tb tc te : TE} {t u : TS} {tt tt' : TT} {x y z v : V} {i : Nat} {g : TG} {r r' : R2} {vs : List V} {a p : Addr}
theorem x_seq (h : t { D with nx := u D } σ H) : tSeq t u D σ H := h
theorem x_cut (M : L2.St → Hp → Prop) (h : t { D with nx := M } σ H) (h2 : ∀ σ' H', M σ' H' → u D σ' H') : C8.tCut t u D σ H := ⟨M, h, h2⟩
theorem x_next (h : D.nx σ H) : tNext D σ H := h
theorem x_asg (h : te σ H fun x H1 => g x σ H1 D.nx) : tAsg te g D σ H := h
theorem x_drop (h : te σ H fun _ H1 => D.nx σ H1) : tDrop te D σ H := h
theorem x_ret (h : te σ H D.rt) : tRet te D σ H := h
theorem x_retN (h : D.rt .non H) : tRetN D σ H := h
theorem x_ifS (h : tt σ H fun b H1 => if b = true then t D σ H1 else u D σ H1) : tIfS tt t u D σ H := h
theorem x_var (e : σ[i]? = some (some v)) (h : Q v H) : tVar i σ H Q := ⟨v, e, h⟩
theorem x_c (h : Q v H) : tC v σ H Q := h
theorem x_op (h : ta σ H fun x H1 => tb σ H1 fun y H2 => r x y H2 Q) : tOp r ta tb σ H Q := h
theorem x_un {r : V → Hp → VK → Prop} (h : ta σ H fun x H1 => r x H1 Q) : tUn r ta σ H Q := h
theorem x_neg {f : Int → V} {m : Int} (h : Q (f m) H) : rU f (.int m) H Q := ⟨m, rfl, h⟩
theorem x_I0 {f : Int → Int → V} {m n : Int} (h : Q (f m n) H) : rI0 f (.int m) (.int n) H Q := ⟨m, n, rfl, rfl, h⟩
theorem x_I {C : Int → Int → Prop} {f : Int → Int → V} {m n : Int} (c : C m n) (h : Q (f m n) H) : rI C f (.int m) (.int n) H Q := ⟨m, n, rfl, rfl, c, h⟩
theorem x_eqI {m n : Int} (h : Q (.bl (decide (m = n))) H) : rEq (.int m) (.int n) H Q := ⟨rfl, by rw [show decide (V.int m = V.int n) = decide (m = n) by simp]; exact h⟩
theorem x_neI {m n : Int} (h : Q (.bl (!decide (m = n))) H) : rNe (.int m) (.int n) H Q := ⟨rfl, by rw [show decide (V.int m = V.int n) = decide (m = n) by simp]; exact h⟩
theorem x_eqS {m n : Str} (h : Q (.bl (decide (m = n))) H) : rEq (.str m) (.str n) H Q := ⟨rfl, by rw [show decide (V.str m = V.str n) = decide (m = n) by simp]; exact h⟩
theorem x_neS {m n : Str} (h : Q (.bl (!decide (m = n))) H) : rNe (.str m) (.str n) H Q := ⟨rfl, by rw [show decide (V.str m = V.str n) = decide (m = n) by simp]; exact h⟩
theorem x_eqB {m n : Bool} (h : Q (.bl (decide (m = n))) H) : rEq (.bl m) (.bl n) H Q := ⟨rfl, by rw [show decide (V.bl m = V.bl n) = decide (m = n) by simp]; exact h⟩
theorem x_neB {m n : Bool} (h : Q (.bl (!decide (m = n))) H) : rNe (.bl m) (.bl n) H Q := ⟨rfl, by rw [show decide (V.bl m = V.bl n) = decide (m = n) by simp]; exact h⟩
theorem x_tst {R : Bool → Hp → Prop} (h : te σ H fun x H1 => ∃ k, x = .bl k ∧ R k H1) : tTest te σ H R := h
theorem x_tB {R : Bool → Hp → Prop} (h : te σ H fun x H1 => ∃ k, x = .bl k ∧ R k H1) : tB te σ H R := h
theorem x_bl {b : Bool} {R : Bool → Prop} (h : R b) : ∃ k, V.bl b = .bl k ∧ R k := ⟨b, rfl, h⟩
theorem x_ifNT {A B : Prop} (h : B) : if (!true) = true then A else B := h
theorem x_ifNF {A B : Prop} (h : A) : if (!false) = true then A else B := h
theorem x_yes {R : Bool → Hp → Prop} (h : R true H) : tYes σ H R := h
theorem x_ifTT {A B : Prop} (h : A) : if true = true then A else B := by rw [if_pos rfl]; exact h
theorem x_ifFF {A B : Prop} (h : B) : if false = true then A else B := by rw [if_neg Bool.false_ne_true]; exact h
theorem x_bnot {b : Bool} {R : Bool → Prop} (h : R (!b)) : ∃ k, V.bl (!b) = .bl k ∧ R k := ⟨_, rfl, h⟩
theorem x_and {R : Bool → Hp → Prop} (h : tt σ H fun c H1 => if c = true then tt' σ H1 R else R false H1) : tAnd tt tt' σ H R := h
theorem x_or {R : Bool → Hp → Prop} (h : tt σ H fun c H1 => if c = true then R true H1 else tt' σ H1 R) : tOr tt tt' σ H R := h
theorem x_not {R : Bool → Hp → Prop} (h : tt σ H fun c H1 => R (!c) H1) : tNot tt σ H R := h
theorem x_andV (h : ta σ H fun x H1 => ∃ c, x = .bl c ∧ if c = true then tb σ H1 Q else Q (.bl false) H1) : tAndV ta tb σ H Q := h
theorem x_orV (h : ta σ H fun x H1 => ∃ c, x = .bl c ∧ if c = true then Q (.bl true) H1 else tb σ H1 Q) : tOrV ta tb σ H Q := h
theorem x_notV (h : ta σ H fun x H1 => ∃ c, x = .bl c ∧ Q (.bl (!c)) H1) : tNotV ta σ H Q := h
theorem x_ifE (h : tt σ H fun c H1 => if c = true then ta σ H1 Q else tb σ H1 Q) : tIf tt ta tb σ H Q := h
theorem x_ch (h : ta σ H fun x H1 => tb σ H1 fun y H2 => r x y H2 fun z H3 => ∃ k, z = .bl k ∧ (if k = true then tc σ H3 fun w' H4 => r' y w' H4 Q else Q (.bl false) H3)) : tChain r r' ta tb tc σ H Q := h
theorem x_nil {R : List V → Hp → Prop} (h : R [] H) : tNil σ H R := h
theorem x_cons {tr : TA} {R : List V → Hp → Prop} (h : ta σ H fun x H1 => tr σ H1 fun xs H2 => R (x :: xs) H2) : tCons ta tr σ H R := h
theorem x_tup {ts : TA} (h : ts σ H fun xs H1 => rNewT xs H1 Q) : tTup ts σ H Q := h
theorem x_lst {ts : TA} (h : ts σ H fun xs H1 => rNewL xs H1 Q) : tLst ts σ H Q := h
theorem x_newL {xs : List V} (h : ∀ p H1, H p = none → Kp F0 H H1 → H1 p = some (.lst xs) → Q (.ref p) H1) (h1 : Nat.ble xs.length 1000 = true := by rfl) : rNewL xs H Q := ⟨Nat.le_trans (Nat.le_of_ble_eq_true h1) (by decide), fun p hp => h p _ hp (Kp.new hp) upd_same⟩
theorem x_newT {xs : List V} (h : ∀ p H1, H p = none → Kp F0 H H1 → H1 p = some (.tup xs) → Q (.ref p) H1) (h1 : Nat.ble xs.length 1000 = true := by rfl) : rNewT xs H Q := ⟨Nat.le_trans (Nat.le_of_ble_eq_true h1) (by decide), fun p hp => h p _ hp (Kp.new hp) upd_same⟩
theorem x_cb {rr : List V → Hp → VK → Prop} {ts : TA} (h : ts σ H fun vs H1 => rr vs H1 Q) : tCB rr ts σ H Q := h
theorem x_callS {sp : Sp} {E : L2.St → XK} {ts : TA} (h : ts σ H fun vs H1 => sp vs H1 Q (E σ)) : tCallS sp E ts σ H Q := h
theorem x_gn {R : L2.St → Hp → Prop} (h : R (σ.set i (some v)) H) : gName i v σ H R := h
/-- a[i], o[i] = v -/
theorem x_ixL {xs : List V} {j : Int} (h : SqL K H p xs) (e : atI xs j = some v) (q : Q v H) : rIxL K (.ref p) (.int j) H Q := ⟨p, xs, j, v, rfl, rfl, h, e, q⟩
theorem x_ixT {xs : List V} {j : Int} (h : SqT K H p xs) (e : atI xs j = some v) (q : Q v H) : rIxT K (.ref p) (.int j) H Q := ⟨p, xs, j, v, rfl, rfl, h, e, q⟩
theorem x_sub {R : L2.St → Hp → Prop} {s : TSet} (h : ta σ H fun o H1 => tb σ H1 fun i H2 => s o i v H2 fun H3 => R σ H3) : gSub ta tb s v σ H R := h
theorem x_setL {xs : List V} {k : Int} {j : Nat} {R : Hp → Prop} (h : H p = some (.lst xs)) (e : ixN xs.length k = some j) (q : R (upd H p (.lst (xs.set j v)))) : rSetL (.ref p) (.int k) v H R := ⟨p, xs, k, j, rfl, rfl, h, e, q⟩
end
/-- len(xs) -/
def rLenQ (K : PySem.W.Frag) : List V → Hp → VK → Prop := fun xs H Q => ∃ p ys, xs = [.ref p] ∧ (SqL K H p ys ∨ SqT K H p ys) ∧ Q (.int ys.length) H
theorem c_len {X : Cx} : CallR X (.builtin "len") (rLenQ X.K) := call_len_seq
theorem x_lenL {K : PySem.W.Frag} {H : Hp} {Q : VK} {p : Addr} {ys : List V} (h : SqL K H p ys) (q : Q (.int ys.length) H) : rLenQ K [.ref p] H Q := ⟨p, ys, rfl, .inl h, q⟩
theorem x_lenT {K : PySem.W.Frag} {H : Hp} {Q : VK} {p : Addr} {ys : List V} (h : SqT K H p ys) (q : Q (.int ys.length) H) : rLenQ K [.ref p] H Q := ⟨p, ys, rfl, .inr h, q⟩
/-- int(n), int(flag) -/
def rIntQ : List V → Hp → VK → Prop := fun xs H Q => (∃ i, xs = [.int i] ∧ Q (.int i) H) ∨ ∃ k, xs = [.bl k] ∧ Q (.int (if k then 1 else 0)) H
theorem c_int {X : Cx} : CallR X (.type "int") rIntQ := call_int1
theorem x_intI {H : Hp} {Q : VK} {i : Int} (q : Q (.int i) H) : rIntQ [.int i] H Q := .inl ⟨i, rfl, q⟩
theorem x_intB {H : Hp} {Q : VK} {k : Bool} (q : Q (.int (if k then 1 else 0)) H) : rIntQ [.bl k] H Q := .inr ⟨k, rfl, q⟩
theorem ite_dec {p : Prop} [Decidable p] {A B : Prop} (h1 : p → A) (h2 : ¬ p → B) : if decide p = true then A else B := by
  by_cases h : p
  · rw [if_pos (decide_eq_true h)]; exact h1 h
  · rw [if_neg (by simpa using h)]; exact h2 h
theorem ite_ndec {p : Prop} [Decidable p] {A B : Prop} (h1 : ¬ p → A) (h2 : p → B) : if (!decide p) = true then A else B := by
  by_cases h : p
  · rw [if_neg (by simp [h])]; exact h2 h
  · rw [if_pos (by simp [h])]; exact h1 h
theorem ite_bool {b : Bool} {A B : Prop} (h1 : b = true → A) (h2 : b = false → B) : if b = true then A else B := by
  cases b
  · rw [if_neg Bool.false_ne_true]; exact h2 rfl
  · rw [if_pos rfl]; exact h1 rfl
/-- an item by its place -/
theorem atI_at {α : Type} {xs : List α} {j : Int} {v : α} (k : Nat) (e : j = (k : Int)) (h : xs[k]? = some v) : atI xs j = some v := by subst e; exact atI_nat h
theorem ixN_at {n : Nat} {j : Int} (k : Nat) (e : j = (k : Int)) (h : k < n) : ixN n j = some k := by
  subst e; unfold ixN
  rw [if_pos (by omega), if_pos (by omega)]; rfl
theorem fdiv_ok {a n : Int} (h0 : 0 < n) (h1 : n < 2 ^ 64) : CDivW a n := wide_div (b := 64) h0 (by omega) (by decide) (by decide)

/-! ### loops -/
/-- J walks xs while G holds -/
structure Wk (J : It) (G : Hp → Prop) (xs : List V) : Prop where
  go : ∀ i H, i < xs.length → G H → J.go i H
  yld : ∀ i H x H', i < xs.length → G H → J.yld i H x H' → H = H' ∧ xs[i]? = some x
  stop : ∀ H, G H → J.stop xs.length H
theorem Wk.list {K : PySem.W.Frag} {a : Addr} {xs : List V} : Wk (Itl K a) (fun H => SqL K H a xs) xs where
  go := fun i H h g => ⟨xs, xs[i], g, by simp [h]⟩
  yld := fun i H x H' _ g y => ⟨y.1.symm, y.2 xs g⟩
  stop := fun H g => ⟨xs, g, Nat.le_refl _⟩
theorem Wk.tup {K : PySem.W.Frag} {a : Addr} {xs : List V} : Wk (Itt K a) (fun H => SqT K H a xs) xs where
  go := fun i H h g => ⟨xs, xs[i], g, by simp [h]⟩
  yld := fun i H x H' _ g y => ⟨y.1.symm, y.2 xs g⟩
  stop := fun H g => ⟨xs, g, Nat.le_refl _⟩
def rgl (lo : Int) (n : Nat) : List V := (List.range n).map fun i => V.int (lo + (i : Nat))
theorem rgl_len {lo : Int} {n : Nat} : (rgl lo n).length = n := by unfold rgl; simp
theorem rgl_at {lo : Int} {n i : Nat} {x : V} (h : (rgl lo n)[i]? = some x) : i < n ∧ x = .int (lo + (i : Nat)) := by
  unfold rgl at h
  rw [List.getElem?_map] at h
  by_cases hi : i < n
  · rw [List.getElem?_range hi] at h
    exact ⟨hi, (Option.some.inj h).symm⟩
  · rw [List.getElem?_eq_none (by simpa using hi)] at h
    cases h
theorem Wk.rng {lo : Int} {n : Nat} : Wk (Itr lo n) (fun _ => True) (rgl lo n) where
  go := fun i H h _ => by rw [rgl_len] at h; exact h
  yld := fun i H x H' h _ y => by
    rw [rgl_len] at h
    refine ⟨y.1.symm, ?_⟩
    unfold rgl
    rw [List.getElem?_map, List.getElem?_range h, y.2]; rfl
  stop := fun H _ => by show n ≤ _; rw [rgl_len]; exact Nat.le_refl _
theorem wfor {J : It} {G : Hp → Prop} {xs : List V} {g : TG} {tb : TS} {D : Ends} {σ : L2.St} {H : Hp} (W : Wk J G xs) (Pv : Nat → L2.St → Hp → Prop) (h0 : Pv 0 σ H) (hG : ∀ i σ H, Pv i σ H → G H)
    (hs : ∀ i x σ H, xs[i]? = some x → Pv i σ H → g x σ H fun σ2 H2 => tb { D with nx := Pv (i + 1), ct := Pv (i + 1), bk := D.nx } σ2 H2) (hd : ∀ σ H, Pv xs.length σ H → D.nx σ H) :
    ∃ W : Nat → Nat → L2.St → Hp → Prop, (∃ m, W 0 m σ H) ∧ ∀ i m σ H, W i m σ H →
      (J.stop i H ∧ D.nx σ H) ∨ (J.go i H ∧ ∃ N : L2.St → Hp → Prop, (∀ σ' H', N σ' H' → ∃ m', m' < m ∧ W (i + 1) m' σ' H') ∧ ∀ x H', J.yld i H x H' → g x σ H' fun σ2 H2 => tb { D with nx := N, ct := N, bk := D.nx } σ2 H2) := by
  refine ⟨fun i m σ H => m = xs.length - i ∧ i ≤ xs.length ∧ Pv i σ H, ⟨_, rfl, Nat.zero_le _, h0⟩, ?_⟩
  rintro i m σ H ⟨rfl, hi, p⟩
  by_cases hlt : i < xs.length
  · refine .inr ⟨W.go i H hlt (hG _ _ _ p), Pv (i + 1), fun σ' H' p' => ⟨xs.length - (i + 1), by omega, rfl, hlt, p'⟩, fun x H' y => ?_⟩
    obtain ⟨rfl, e⟩ := W.yld i H x H' hlt (hG _ _ _ p) y
    exact hs i x σ _ e p
  · obtain rfl : i = xs.length := by omega
    exact .inl ⟨W.stop H (hG _ _ _ p), hd σ H p⟩
/-- a comprehension: F what its turns may change, S what stays true of the heap, Pv of the list so far -/
theorem wlc {J : It} {G : Hp → Prop} {xs : List V} {g : TG} {tt : TT} {te : TE} {vs : List Nat} {σ : L2.St} {H0 : Hp} {Qd : Addr → Hp → Prop} (W : Wk J G xs) (F : Addr → Prop) (S : Hp → Prop) (Pv : Nat → List V → Prop)
    (hF : ∀ b, F b → H0 b ≠ none) (hz : xs.length ≤ 100000) (hG : ∀ H', S H' → Kp F H0 H' → G H') (h0 : Pv 0 []) (hS : S H0) (hSt : ∀ D, H0 D = none → ∀ H' o, (∀ u, H' D = some u → ¬ Fix u) → S H' → S (upd H' D o))
    (hs : ∀ i x acc H' (R : V → Hp → Prop) (R0 : Hp → Prop), xs[i]? = some x → Pv i acc → S H' → Kp F H0 H' → (∀ y H4, Kp F H' H4 → S H4 → Pv (i + 1) (acc ++ [y]) → R y H4) → (∀ H4, Kp F H' H4 → S H4 → Pv (i + 1) acc → R0 H4) →
      g x (wipe σ vs) H' fun σ2 H2 => wipe σ2 vs = wipe σ vs ∧ tt σ2 H2 fun b H3 => if b = true then te σ2 H3 R else R0 H3)
    (hd : ∀ D H' acc, H0 D = none → H' D = some (.lst acc) → Pv xs.length acc → S H' → Kp F H0 H' → Qd D H') :
    ∀ D, H0 D = none → ∃ W : Nat → Nat → Hp → Prop, (∃ m, W 0 m (upd H0 D (.lst []))) ∧ ∀ i m H, W i m H →
      (J.stop i H ∧ Qd D H) ∨ (J.go i H ∧ ∃ Nx : Hp → Prop, (∀ H', Nx H' → ∃ m', m' < m ∧ W (i + 1) m' H') ∧ ∀ x H', J.yld i H x H' → g x (wipe σ vs) H' fun σ2 H2 => wipe σ2 vs = wipe σ vs ∧ tt σ2 H2 fun b H3 =>
        if b = true then te σ2 H3 fun y H4 => ∃ acc, H4 D = some (.lst acc) ∧ acc.length < sizeLine ∧ Nx (upd H4 D (.lst (acc ++ [y]))) else Nx H3) := by
  intro D hD
  have nFD : ¬ F D := fun z => hF D z hD
  refine ⟨fun i m H' => m = xs.length - i ∧ i ≤ xs.length ∧ ∃ acc, H' D = some (.lst acc) ∧ acc.length ≤ i ∧ Pv i acc ∧ S H' ∧ Kp F H0 H',
    ⟨_, rfl, Nat.zero_le _, [], upd_same, Nat.le_refl _, h0, hSt D hD _ _ (fun u z => by rw [hD] at z; cases z) hS, (Kp.new hD).mono fun b z => z.elim⟩, ?_⟩
  rintro i m H ⟨rfl, hi, acc, hacc, hl, p, hSH, kp⟩
  by_cases hlt : i < xs.length
  · refine .inr ⟨W.go i H hlt (hG _ hSH kp), _, fun H' z => ⟨xs.length - (i + 1), by omega, z⟩, fun x H' y => ?_⟩
    obtain ⟨rfl, e⟩ := W.yld i H x H' hlt (hG _ hSH kp) y
    refine hs i x acc _ _ _ e p hSH kp (fun y H4 k4 s4 p4 => ?_) (fun H4 k4 s4 p4 => ?_)
    · refine ⟨acc, k4.get hacc nFD, Nat.lt_of_le_of_lt (Nat.le_trans hl (Nat.le_trans hi hz)) (by decide), rfl, hlt, acc ++ [y], upd_same, by rw [List.length_append, List.length_singleton]; omega, p4, hSt D hD _ _ (fun u z => by rw [k4.get hacc nFD] at z; cases z; exact id) s4, ?_⟩
      intro b o hb n
      rw [upd_ne (ne_of_none hb hD)]
      exact k4 b o (kp b o hb n) n
    · exact ⟨rfl, hlt, acc, k4.get hacc nFD, by omega, p4, s4, fun b o hb n => k4 b o (kp b o hb n) n⟩
  · obtain rfl : i = xs.length := by omega
    exact .inl ⟨W.stop H (hG _ hSH kp), hd D H acc hD hacc p hSH kp⟩
/-- a comprehension that changes nothing and keeps all: the list ys comes -/
theorem wlcP {J : It} {G : Hp → Prop} {xs ys : List V} {g : TG} {te : TE} {vs : List Nat} {σ : L2.St} {H0 : Hp} {Qd : Addr → Hp → Prop} (W : Wk J G xs) (hl : ys.length = xs.length) (hz : xs.length ≤ 100000) (hG : ∀ H', Kp F0 H0 H' → G H')
    (hs : ∀ (i : Nat) x y H' (R : V → Hp → Prop), xs[i]? = some x → ys[i]? = some y → Kp F0 H0 H' → (∀ H4, Kp F0 H' H4 → R y H4) → g x (wipe σ vs) H' fun σ2 H2 => wipe σ2 vs = wipe σ vs ∧ te σ2 H2 R)
    (hd : ∀ D H', H0 D = none → Kp F0 H0 H' → H' D = some (.lst ys) → Qd D H') :
    ∀ D, H0 D = none → ∃ W : Nat → Nat → Hp → Prop, (∃ m, W 0 m (upd H0 D (.lst []))) ∧ ∀ i m H, W i m H →
      (J.stop i H ∧ Qd D H) ∨ (J.go i H ∧ ∃ Nx : Hp → Prop, (∀ H', Nx H' → ∃ m', m' < m ∧ W (i + 1) m' H') ∧ ∀ x H', J.yld i H x H' → g x (wipe σ vs) H' fun σ2 H2 => wipe σ2 vs = wipe σ vs ∧ tYes σ2 H2 fun b H3 =>
        if b = true then te σ2 H3 fun y H4 => ∃ acc, H4 D = some (.lst acc) ∧ acc.length < sizeLine ∧ Nx (upd H4 D (.lst (acc ++ [y]))) else Nx H3) := by
  refine wlc W F0 (fun _ => True) (fun i acc => acc = ys.take i) (fun b z => z.elim) hz (fun H' _ k => hG H' k) rfl trivial (fun _ _ _ _ _ _ => trivial) (fun i x acc H' R R0 e p _ kp h1 _ => ?_) (fun D H' acc hD hacc p _ kp => hd D H' hD kp (by rw [hacc, p, ← hl, List.take_length]))
  have hi : i < ys.length := by rw [hl]; exact (List.getElem?_eq_some_iff.mp e).1
  refine hs i x ys[i] H' R e (by simp [hi]) kp fun H4 k4 => h1 _ _ k4 trivial ?_
  rw [p, List.take_succ, List.getElem?_eq_getElem hi]; rfl

section
variable {K : PySem.W.Frag} {σ : L2.St} {H : Hp} {Q : VK} {D : Ends} {ta tb tc te : TE} {t u : TS} {tt tt' : TT} {x y z v : V} {i : Nat} {g : TG} {a p : Addr} {wi : TI} {ts : TA} {R : It → Hp → Prop}
theorem x_for (h : wi σ H fun J H1 => ∃ W : Nat → Nat → L2.St → Hp → Prop, (∃ m, W 0 m σ H1) ∧ ∀ i m σ H, W i m σ H →
    (J.stop i H ∧ D.nx σ H) ∨ (J.go i H ∧ ∃ N : L2.St → Hp → Prop, (∀ σ' H', N σ' H' → ∃ m', m' < m ∧ W (i + 1) m' σ' H') ∧ ∀ x H', J.yld i H x H' → g x σ H' fun σ2 H2 => t { D with nx := N, ct := N, bk := D.nx } σ2 H2)) : tFor wi g t D σ H := h
theorem x_lc {vs : List Nat} (h : wi σ H fun J H1 => ∀ D, H1 D = none → ∃ W : Nat → Nat → Hp → Prop, (∃ m, W 0 m (upd H1 D (.lst []))) ∧ ∀ i m H, W i m H →
    (J.stop i H ∧ Q (.ref D) H) ∨ (J.go i H ∧ ∃ Nx : Hp → Prop, (∀ H', Nx H' → ∃ m', m' < m ∧ W (i + 1) m' H') ∧ ∀ x H', J.yld i H x H' → g x (wipe σ vs) H' fun σ2 H2 => wipe σ2 vs = wipe σ vs ∧ tt σ2 H2 fun b H3 =>
      if b = true then te σ2 H3 fun y H4 => ∃ acc, H4 D = some (.lst acc) ∧ acc.length < sizeLine ∧ Nx (upd H4 D (.lst (acc ++ [y]))) else Nx H3)) : tLc wi g tt te vs σ H Q := h
theorem x_rng1 (h : ts σ H fun vs H1 => ∃ j : Int, vs = [.int j] ∧ -(2 ^ 62) ≤ j ∧ j < 2 ^ 62 ∧ R (Itr 0 j.toNat) H1) : iRng1 ts σ H R := h
theorem x_rg1 {S : Int → Prop} {n : Int} (h1 : -(2 ^ 62) ≤ n) (h2 : n < 2 ^ 62) (h : S n) : ∃ j : Int, [V.int n] = [.int j] ∧ -(2 ^ 62) ≤ j ∧ j < 2 ^ 62 ∧ S j := ⟨n, rfl, h1, h2, h⟩
theorem x_rng2 (h : ts σ H fun vs H1 => ∃ i j : Int, vs = [.int i, .int j] ∧ (-(2 ^ 62) ≤ i ∧ i < 2 ^ 62 ∧ -(2 ^ 62) ≤ j ∧ j < 2 ^ 62) ∧ R (Itr i (j - i).toNat) H1) : iRng2 ts σ H R := h
theorem x_rg2 {S : Int → Int → Prop} {m n : Int} (h1 : -(2 ^ 62) ≤ m ∧ m < 2 ^ 62 ∧ -(2 ^ 62) ≤ n ∧ n < 2 ^ 62) (h : S m n) : ∃ i j : Int, [V.int m, V.int n] = [.int i, .int j] ∧ (-(2 ^ 62) ≤ i ∧ i < 2 ^ 62 ∧ -(2 ^ 62) ≤ j ∧ j < 2 ^ 62) ∧ S i j := ⟨m, n, rfl, h1, h⟩
theorem x_iL (h : te σ H fun x H1 => ∃ a, x = .ref a ∧ (∃ xs, SqL K H1 a xs) ∧ R (Itl K a) H1) : iList K te σ H R := h
theorem x_iL1 {xs : List V} {S : Addr → Prop} (h : SqL K H a xs) (q : S a) : ∃ b, V.ref a = .ref b ∧ (∃ xs, SqL K H b xs) ∧ S b := ⟨a, rfl, ⟨xs, h⟩, q⟩
theorem x_iT (h : te σ H fun x H1 => ∃ a, x = .ref a ∧ (∃ xs, SqT K H1 a xs) ∧ R (Itt K a) H1) : iTup K te σ H R := h
theorem x_iT1 {xs : List V} {S : Addr → Prop} (h : SqT K H a xs) (q : S a) : ∃ b, V.ref a = .ref b ∧ (∃ xs, SqT K H b xs) ∧ S b := ⟨a, rfl, ⟨xs, h⟩, q⟩
theorem x_sum {ns : List Int} (h : SqL K H a (ns.map V.int)) (q : Q (.int ns.sum) H) : rSum K [.ref a] H Q := ⟨a, ns, rfl, h, q⟩
theorem x_max {ns : List Int} (h : SqL K H a (ns.map V.int)) (h0 : 0 < ns.length) (q : ∀ m, m ∈ ns → (∀ y, y ∈ ns → y ≤ m) → Q (.int m) H) : rMax K [.ref a] H Q := ⟨a, ns, rfl, h, h0, q⟩
theorem x_min {ns : List Int} (h : SqL K H a (ns.map V.int)) (h0 : 0 < ns.length) (q : ∀ m, m ∈ ns → (∀ y, y ∈ ns → m ≤ y) → Q (.int m) H) : rMin K [.ref a] H Q := ⟨a, ns, rfl, h, h0, q⟩
end
/-- abs, max, min of two -/
def rAbsQ : List V → Hp → VK → Prop := fun xs H Q => ∃ i, xs = [.int i] ∧ Q (.int (if i < 0 then -i else i)) H
theorem c_abs {X : Cx} : CallR X (.builtin "abs") rAbsQ := call_abs
theorem x_abs {H : Hp} {Q : VK} {i : Int} (q : Q (.int (if i < 0 then -i else i)) H) : rAbsQ [.int i] H Q := ⟨i, rfl, q⟩
def rMax2Q : List V → Hp → VK → Prop := fun xs H Q => ∃ i j, xs = [.int i, .int j] ∧ Q (.int (if j > i then j else i)) H
theorem c_max2 {X : Cx} (hc : X.calm = true) : CallR X (.builtin "max") rMax2Q := call_max2 hc
theorem x_max2 {H : Hp} {Q : VK} {i j : Int} (q : Q (.int (max i j)) H) : rMax2Q [.int i, .int j] H Q := ⟨i, j, rfl, by rw [show (if j > i then j else i) = max i j by split <;> omega]; exact q⟩
def rMin2Q : List V → Hp → VK → Prop := fun xs H Q => ∃ i j, xs = [.int i, .int j] ∧ Q (.int (if j < i then j else i)) H
theorem c_min2 {X : Cx} (hc : X.calm = true) : CallR X (.builtin "min") rMin2Q := call_min2 hc
theorem x_min2 {H : Hp} {Q : VK} {i j : Int} (q : Q (.int (min i j)) H) : rMin2Q [.int i, .int j] H Q := ⟨i, j, rfl, by rw [show (if j < i then j else i) = min i j by split <;> omega]; exact q⟩
/-- list(xs), tuple(xs) -/
def rLstQ (K : PySem.W.Frag) : List V → Hp → VK → Prop := fun xs H Q => ∃ p ys, xs = [.ref p] ∧ (SqL K H p ys ∨ SqT K H p ys) ∧ ∀ l, H l = none → Q (.ref l) (upd H l (.lst ys))
theorem c_list {X : Cx} : CallR X (.type "list") (rLstQ X.K) := call_list_of
theorem x_lstL {K : PySem.W.Frag} {H : Hp} {Q : VK} {p : Addr} {ys : List V} (h : SqL K H p ys) (q : ∀ l H1, H l = none → Kp F0 H H1 → H1 l = some (.lst ys) → Q (.ref l) H1) : rLstQ K [.ref p] H Q := ⟨p, ys, rfl, .inl h, fun l hl => q l _ hl (Kp.new hl) upd_same⟩
theorem x_lstT {K : PySem.W.Frag} {H : Hp} {Q : VK} {p : Addr} {ys : List V} (h : SqT K H p ys) (q : ∀ l H1, H l = none → Kp F0 H H1 → H1 l = some (.lst ys) → Q (.ref l) H1) : rLstQ K [.ref p] H Q := ⟨p, ys, rfl, .inr h, fun l hl => q l _ hl (Kp.new hl) upd_same⟩
def rTupQ (K : PySem.W.Frag) : List V → Hp → VK → Prop := fun xs H Q => ∃ p ys, xs = [.ref p] ∧ ((SqL K H p ys ∧ ∀ l, H l = none → Q (.ref l) (upd H l (.tup ys))) ∨ (SqT K H p ys ∧ Q (.ref p) H))
theorem c_tuple {X : Cx} : CallR X (.type "tuple") (rTupQ X.K) := call_tuple_of
theorem x_tupL {K : PySem.W.Frag} {H : Hp} {Q : VK} {p : Addr} {ys : List V} (h : SqL K H p ys) (q : ∀ l H1, H l = none → Kp F0 H H1 → H1 l = some (.tup ys) → Q (.ref l) H1) : rTupQ K [.ref p] H Q := ⟨p, ys, rfl, .inl ⟨h, fun l hl => q l _ hl (Kp.new hl) upd_same⟩⟩
theorem x_tupT {K : PySem.W.Frag} {H : Hp} {Q : VK} {p : Addr} {ys : List V} (h : SqT K H p ys) (q : Q (.ref p) H) : rTupQ K [.ref p] H Q := ⟨p, ys, rfl, .inr ⟨h, q⟩⟩
/-- isinstance of an int -/
theorem x_isi {K : PySem.W.Frag} {H : Hp} {Q : VK} {i : Int} {T : String} {b : Bool} (hk : PySem.W.kitOne K (.type "int") (.type T) = some b) (q : Q (.bl b) H) : rIsi K [.int i, .ty T] H Q := ⟨_, _, _, _, b, rfl, .ty T, .base (.int i), hk, q⟩
theorem x_isiI {K : PySem.W.Frag} {H : Hp} {Q : VK} {i : Int} (q : Q (.bl true) H) : rIsi K [.int i, .ty "int"] H Q := x_isi (kit_ty (by decide +kernel)) q
theorem x_isiB {K : PySem.W.Frag} {H : Hp} {Q : VK} {i : Int} (q : Q (.bl false) H) : rIsi K [.int i, .ty "bool"] H Q := x_isi (kit_ty (by decide +kernel)) q
/-- bytes of a slice: a new list -/
theorem x_sl {σ : L2.St} {H : Hp} {Q : VK} {te : TE} {tl th : TO} {r : V → Option Int → Option Int → Hp → VK → Prop} (h : te σ H fun x H1 => tl σ H1 fun l H2 => th σ H2 fun u H3 => r x l u H3 Q) : L2.tSl r te tl th σ H Q := h
theorem x_part {σ : L2.St} {H : Hp} {Q : Option Int → Hp → Prop} {te : TE} (h : te σ H fun x H1 => ∃ i, x = .int i ∧ Q (some i) H1) : tPart te σ H Q := h
theorem x_part1 {S : Int → Prop} {i : Int} (h : S i) : ∃ j, V.int i = .int j ∧ S j := ⟨i, rfl, h⟩
theorem x_nopart {σ : L2.St} {H : Hp} {Q : Option Int → Hp → Prop} (h : Q none H) : tNoPart σ H Q := h
theorem x_slL {K : PySem.W.Frag} {H : Hp} {Q : VK} {p : Addr} {xs : List V} {lo hi : Option Int} (h : SqL K H p xs) (q : ∀ l H1, H l = none → Kp F0 H H1 → H1 l = some (.lst (cutV xs lo hi)) → Q (.ref l) H1) : rSlL K (.ref p) lo hi H Q := ⟨p, xs, rfl, h, fun l hl => q l _ hl (Kp.new hl) upd_same⟩
theorem x_slT {K : PySem.W.Frag} {H : Hp} {Q : VK} {p : Addr} {xs : List V} {lo hi : Option Int} (h : SqT K H p xs) (q : ∀ l H1, Kp F0 H H1 → SqT K H1 l (cutV xs lo hi) → Q (.ref l) H1) : rSlA K (.ref p) lo hi H Q :=
  ⟨p, xs, rfl, h, fun e => q p H (Kp.refl _) (by rw [show cutV xs lo hi = xs by unfold cutV; rw [e.1, e.2]; simp]; exact h), fun _ l hl => q l _ (Kp.new hl) (SqT.of upd_same)⟩
theorem x_catT {K : PySem.W.Frag} {H : Hp} {Q : VK} {a b : Addr} {xs ys : List V} (ha : SqT K H a xs) (hb : SqT K H b ys) (hz : xs.length + ys.length ≤ 100000) (q : ∀ l H1, Kp F0 H H1 → SqT K H1 l (xs ++ ys) → Q (.ref l) H1) : rCatA K (.ref a) (.ref b) H Q :=
  ⟨a, b, xs, ys, rfl, rfl, ha, hb, Nat.le_trans hz (by decide), fun e => q b H (Kp.refl _) (by rw [e]; exact hb), fun _ e => q a H (Kp.refl _) (by rw [e, List.append_nil]; exact ha), fun _ _ l hl => q l _ (Kp.new hl) (SqT.of upd_same)⟩
theorem x_catL {H : Hp} {Q : VK} {a b : Addr} {xs ys : List V} (ha : H a = some (.lst xs)) (hb : H b = some (.lst ys)) (hz : xs.length + ys.length ≤ sizeLine) (q : ∀ l H1, H l = none → Kp F0 H H1 → H1 l = some (.lst (xs ++ ys)) → Q (.ref l) H1) : rCat (.ref a) (.ref b) H Q :=
  ⟨a, b, xs, ys, rfl, rfl, ha, hb, hz, fun l hl => q l _ hl (Kp.new hl) upd_same⟩
/-- data compared -/
theorem x_eqD {K : PySem.W.Frag} {H : Hp} {Q : VK} {x y : V} {d e : PyData} (hx : Dp K H x d) (hy : Dp K H y e) (s1 : SeqAt.shaped d = true) (s2 : SeqAt.shaped e = true) (q : Q (.bl (PyData.eqv d e)) H) : rEqD K x y H Q := ⟨d, e, hx, hy, s1, s2, q⟩
theorem x_neD {K : PySem.W.Frag} {H : Hp} {Q : VK} {x y : V} {d e : PyData} (hx : Dp K H x d) (hy : Dp K H y e) (s1 : SeqAt.shaped d = true) (s2 : SeqAt.shaped e = true) (q : Q (.bl (!PyData.eqv d e)) H) : rNeD K x y H Q := ⟨d, e, hx, hy, s1, s2, q⟩

/-! ### data of ints and texts: equal as data, equal -/
mutual
def nb : PyData → Bool
  | .none => true
  | .bool _ => false
  | .int _ => true
  | .str _ => true
  | .list xs => nbAll xs
  | .tuple xs => nbAll xs
  | .dict _ => false
def nbAll : List PyData → Bool
  | [] => true
  | x :: xs => nb x && nbAll xs
end
mutual
theorem eqv_nb : ∀ d e : PyData, nb d = true → nb e = true → (PyData.eqv d e = true ↔ d = e)
  | .none, e, _, h => by cases e <;> first | (simp [nb] at h; done) | simp [PyData.eqv]
  | .int i, e, _, h => by cases e <;> first | (simp [nb] at h; done) | simp [PyData.eqv]
  | .str i, e, _, h => by cases e <;> first | (simp [nb] at h; done) | simp [PyData.eqv]
  | .list xs, e, g, h => by
    cases e with
    | list ys => rw [show PyData.eqv (.list xs) (.list ys) = PyData.eqvAll xs ys by simp [PyData.eqv], eqvAll_nb xs ys (by simpa [nb] using g) (by simpa [nb] using h)]; simp
    | bool b => simp [nb] at h
    | dict b => simp [nb] at h
    | _ => simp [PyData.eqv]
  | .tuple xs, e, g, h => by
    cases e with
    | tuple ys => rw [show PyData.eqv (.tuple xs) (.tuple ys) = PyData.eqvAll xs ys by simp [PyData.eqv], eqvAll_nb xs ys (by simpa [nb] using g) (by simpa [nb] using h)]; simp
    | bool b => simp [nb] at h
    | dict b => simp [nb] at h
    | _ => simp [PyData.eqv]
  | .bool _, _, g, _ => by simp [nb] at g
  | .dict _, _, g, _ => by simp [nb] at g
theorem eqvAll_nb : ∀ xs ys : List PyData, nbAll xs = true → nbAll ys = true → (PyData.eqvAll xs ys = true ↔ xs = ys)
  | [], [], _, _ => by simp [PyData.eqvAll]
  | [], _ :: _, _, _ => by simp [PyData.eqvAll]
  | _ :: _, [], _, _ => by simp [PyData.eqvAll]
  | x :: xs, y :: ys, g, h => by
    simp only [nbAll, Bool.and_eq_true] at g h
    simp only [PyData.eqvAll, Bool.and_eq_true, List.cons.injEq]
    rw [eqv_nb x y g.1 h.1, eqvAll_nb xs ys g.2 h.2]
end
theorem eqv_dec {d e : PyData} (h1 : nb d = true) (h2 : nb e = true) {p : Prop} [Decidable p] (h : d = e ↔ p) : PyData.eqv d e = decide p := by
  rw [Bool.eq_iff_iff, eqv_nb d e h1 h2, h, decide_eq_true_iff]
/-- data whose rows are shaped -/
def Sh (n : Nat) (d : PyData) : Prop := d.canLay0 = true ∧ d.depth ≤ n ∧ nb d = true
theorem Sh.shaped {n : Nat} {d : PyData} (h : Sh n d) (hn : n ≤ 64 := by decide) : SeqAt.shaped d = true := by
  unfold SeqAt.shaped
  rw [h.1, decide_eq_true (Nat.le_trans h.2.1 hn)]; rfl
theorem Sh.int (i : Int) : Sh 0 (.int i) := ⟨by simp [PyData.canLay0], by simp [PyData.depth], by simp [nb]⟩
theorem sh_all {n : Nat} : ∀ {ds : List PyData}, (∀ d ∈ ds, Sh n d) → PyData.canLayAll0 ds = true ∧ PyData.depthAll ds ≤ n ∧ nbAll ds = true
  | [], _ => ⟨by simp [PyData.canLayAll0], by simp [PyData.depthAll], by simp [nbAll]⟩
  | d :: ds, h => by
    have h1 := h d (by simp)
    have h2 := sh_all (ds := ds) fun x hx => h x (List.mem_cons_of_mem _ hx)
    exact ⟨by simp [PyData.canLayAll0, h1.1, h2.1], by simp only [PyData.depthAll]; have := h1.2.1; have := h2.2.1; omega, by simp [nbAll, h1.2.2, h2.2.2]⟩
theorem Sh.list {n : Nat} {ds : List PyData} (h : ∀ d ∈ ds, Sh n d) : Sh (n + 1) (.list ds) := by
  have q := sh_all h
  exact ⟨by simp [PyData.canLay0, q.1], by simp only [PyData.depth]; have := q.2.1; omega, by simp [nb, q.2.2]⟩
theorem Sh.tuple {n : Nat} {ds : List PyData} (h : ∀ d ∈ ds, Sh n d) : Sh (n + 1) (.tuple ds) := by
  have q := sh_all h
  exact ⟨by simp [PyData.canLay0, q.1], by simp only [PyData.depth]; have := q.2.1; omega, by simp [nb, q.2.2]⟩
theorem sh_ints (ns : List Int) : ∀ d ∈ ns.map PyData.int, Sh 0 d := fun d h => by
  obtain ⟨i, _, rfl⟩ := List.mem_map.mp h
  exact Sh.int i
theorem map_int_inj : ∀ {ns ms : List Int}, ns.map PyData.int = ms.map PyData.int ↔ ns = ms
  | [], [] => by simp
  | [], _ :: _ => by simp
  | _ :: _, [] => by simp
  | n :: ns, m :: ms => by simp [map_int_inj (ns := ns) (ms := ms)]
theorem dp_ints {K : PySem.W.Frag} {H : Hp} : ∀ ns : List Int, DpAll K H (ns.map V.int) (ns.map PyData.int)
  | [] => .nil
  | n :: ns => .cons (.int n) (dp_ints ns)
theorem x_eqLI {K : PySem.W.Frag} {H : Hp} {Q : VK} {a b : Addr} {ns ms : List Int} (ha : SqL K H a (ns.map V.int)) (hb : SqL K H b (ms.map V.int)) (q : Q (.bl (decide (ns = ms))) H) : rEqD K (.ref a) (.ref b) H Q :=
  x_eqD (.lst ha (dp_ints _)) (.lst hb (dp_ints _)) (Sh.list (sh_ints _)).shaped (Sh.list (sh_ints _)).shaped (by rw [eqv_dec (p := ns = ms) (Sh.list (sh_ints _)).2.2 (Sh.list (sh_ints _)).2.2 (by simp [map_int_inj])]; exact q)
theorem x_neLI {K : PySem.W.Frag} {H : Hp} {Q : VK} {a b : Addr} {ns ms : List Int} (ha : SqL K H a (ns.map V.int)) (hb : SqL K H b (ms.map V.int)) (q : Q (.bl (!decide (ns = ms))) H) : rNeD K (.ref a) (.ref b) H Q :=
  x_neD (.lst ha (dp_ints _)) (.lst hb (dp_ints _)) (Sh.list (sh_ints _)).shaped (Sh.list (sh_ints _)).shaped (by rw [eqv_dec (p := ns = ms) (Sh.list (sh_ints _)).2.2 (Sh.list (sh_ints _)).2.2 (by simp [map_int_inj])]; exact q)
theorem x_eqTI {K : PySem.W.Frag} {H : Hp} {Q : VK} {a b : Addr} {ns ms : List Int} (ha : SqT K H a (ns.map V.int)) (hb : SqT K H b (ms.map V.int)) (q : Q (.bl (decide (ns = ms))) H) : rEqD K (.ref a) (.ref b) H Q :=
  x_eqD (.tup ha (dp_ints _)) (.tup hb (dp_ints _)) (Sh.tuple (sh_ints _)).shaped (Sh.tuple (sh_ints _)).shaped (by rw [eqv_dec (p := ns = ms) (Sh.tuple (sh_ints _)).2.2 (Sh.tuple (sh_ints _)).2.2 (by simp [map_int_inj])]; exact q)
theorem x_neTI {K : PySem.W.Frag} {H : Hp} {Q : VK} {a b : Addr} {ns ms : List Int} (ha : SqT K H a (ns.map V.int)) (hb : SqT K H b (ms.map V.int)) (q : Q (.bl (!decide (ns = ms))) H) : rNeD K (.ref a) (.ref b) H Q :=
  x_neD (.tup ha (dp_ints _)) (.tup hb (dp_ints _)) (Sh.tuple (sh_ints _)).shaped (Sh.tuple (sh_ints _)).shaped (by rw [eqv_dec (p := ns = ms) (Sh.tuple (sh_ints _)).2.2 (Sh.tuple (sh_ints _)).2.2 (by simp [map_int_inj])]; exact q)

/-! ### rules with the written part named -/
section
variable {X : Cx} {K : PySem.W.Frag} {e o : Expr} {es : List Expr} {ta to te : TE} {f name : Str} {pos apos cpos : Pos} {t : TA} {T id : String} {r : V → List V → Hp → VK → Prop} {tg l : Expr} {gs : TGs}
theorem pe_fldK (hK : X.K = K) (he : PE X e ta) (hb : attributeBase e f X.env (eval e X.env) = eval e X.env := by rfl) : PE X (.Attribute e f pos) (tFld K ta f) := by subst hK; exact pe_fld he hb
theorem pe_kBM (hK : X.K = K) (h : PE X e (tBM X.K T r to t)) : PE X e (tBM K T r to t) := by subst hK; exact h
theorem pe_kBM0 (hK : X.K = K) (h : PE X e (tBM0 X.K T r to)) : PE X e (tBM0 K T r to) := by subst hK; exact h
theorem pg_kT {k : Nat} (hK : X.K = K) (h : PG X tg (gTup X.K k gs)) : PG X tg (gTup K k gs) := by subst hK; exact h
theorem pi_listK (hK : X.K = K) (h : PE X l te) : PI X tg l (iList K te) := by subst hK; exact pi_list h
theorem pi_tupK (hK : X.K = K) (h : PE X l te) : PI X tg l (iTup K te) := by subst hK; exact pi_tup h
end

/-- what every law promises: True -/
def sp_law (K : PySem.W.Frag) : Sp := fun vs H Q _ => ∃ (a : Addr) (ns : List Int), vs = [.ref a] ∧ Sc K H a ns ∧ ns.length ≤ 63 ∧ ∀ H', Q (.bl true) H'
theorem tup_K {K : PySem.W.Frag} {H : Hp} {a : Addr} {dd : Option Addr} {us : List Value} {n : Nat} {sl : Array (Option Value)} {xs : List V} (h : K.lookup a = some ⟨.type "tuple", dd, .seq us.toArray n, sl⟩) (r : Vals xs us) (z : us.length ≤ 1000 := by exact Nat.le_of_ble_eq_true rfl) : SqT K H a xs :=
  .inr ⟨_, us.toArray, n, h, rfl, rfl, Nat.le_trans (by simpa using z) (by decide : 1000 ≤ sizeLine), r⟩

/-! ### methods of lists, targets -/
section
variable {K : PySem.W.Frag} {σ : L2.St} {H : Hp} {Q : VK} {to te : TE} {ts : TA} {T : String} {r : V → List V → Hp → VK → Prop} {l b p a : Addr} {xs zs : List V} {y v : V}
theorem x_bm (h : to σ H fun x H1 => tyV K T x H1 ∧ ts σ H1 fun xs H2 => r x xs H2 Q) : tBM K T r to ts σ H Q := h
theorem x_bm0 (h : to σ H fun x H1 => tyV K T x H1 ∧ r x [] H1 Q) : tBM0 K T r to σ H Q := h
theorem x_ty {B : Prop} (h : H p = some (.lst xs)) (q : B) : tyV K "list" (.ref p) H ∧ B := ⟨.inl ⟨rfl, _, SqL.of h⟩, q⟩
theorem x_app (h : H l = some (.lst xs)) (hz : xs.length < 16777216) (q : ∀ H1, H1 l = some (.lst (xs ++ [y])) → Kp (F1 l) H H1 → Q .non H1) : rAppend (.ref l) [y] H Q :=
  ⟨l, xs, y, rfl, rfl, h, Nat.lt_of_lt_of_le hz (by decide), q _ upd_same (Kp.put h id)⟩
theorem x_ext (h : H l = some (.lst xs)) (hb : H b = some (.lst zs)) (hz : xs.length + zs.length ≤ 16777216) (q : ∀ H1, H1 l = some (.lst (xs ++ zs)) → Kp (F1 l) H H1 → Q .non H1) : rExtend (.ref l) [.ref b] H Q :=
  ⟨l, b, xs, zs, rfl, rfl, h, hb, Nat.le_trans hz (by decide), q _ upd_same (Kp.put h id)⟩
theorem x_all {bs : List Bool} (h : SqL K H a (bs.map V.bl)) (q : Q (.bl (bs.all id)) H) : rAll K [.ref a] H Q := ⟨a, bs, rfl, h, q⟩
theorem x_any {bs : List Bool} (h : SqL K H a (bs.map V.bl)) (q : Q (.bl (bs.any id)) H) : rAny K [.ref a] H Q := ⟨a, bs, rfl, h, q⟩
theorem x_gt {n : Nat} {g : TGs} {R : L2.St → Hp → Prop} (h : SqT K H a xs) (hn : xs.length = n) (q : g xs σ H R) : gTup K n g (.ref a) σ H R := ⟨a, xs, rfl, h, hn, q⟩
theorem x_gc {t : TG} {u : TGs} {R : L2.St → Hp → Prop} (q : t v σ H fun σ' H' => u xs σ' H' R) : gCons t u (v :: xs) σ H R := ⟨v, xs, rfl, q⟩
theorem x_g0 {R : L2.St → Hp → Prop} (q : R σ H) : gNil [] σ H R := ⟨rfl, q⟩
theorem x_isiT {S : String} {b : Bool} (h : SqT K H a xs) (ht : TyX K H (.ref a) (.type "tuple")) (hk : PySem.W.kitOne K (.type "tuple") (.type S) = some b) (q : Q (.bl b) H) : rIsi K [.ref a, .ty S] H Q := ⟨_, _, _, _, b, rfl, .ty S, ht, hk, q⟩
end
/-- n & (2 ^ k - 1) -/
def rAndM : R2 := fun x y H Q => ∃ (i : Int) (k : Nat), x = .int i ∧ y = .int (2 ^ k - 1) ∧ Q (.int (i % 2 ^ k)) H
theorem o_and {X : Cx} : OpR X (binaryOp .BitAnd) rAndM := op_andM
theorem x_and255 {H : Hp} {Q : VK} {i : Int} (q : Q (.int (i % 256)) H) : rAndM (.int i) (.int 255) H Q := ⟨i, 8, rfl, rfl, q⟩
/-! ### slices -/
theorem cut_to {a : List Int} {j : Int} (h0 : 0 ≤ j) (h1 : j ≤ a.length) : cutV (a.map V.int) none (some j) = (a.take j.toNat).map V.int := by
  obtain ⟨k, rfl⟩ := Int.eq_ofNat_of_zero_le h0
  unfold cutV
  rw [HT.sIx_none, HT.sIx_nat]
  simp only [List.drop_zero, Nat.sub_zero, List.length_map, List.map_take, Int.toNat_natCast]
  congr 1
  omega
theorem cut_from {a : List Int} {j : Int} (h0 : 0 ≤ j) (h1 : j ≤ a.length) : cutV (a.map V.int) (some j) none = (a.drop j.toNat).map V.int := by
  obtain ⟨k, rfl⟩ := Int.eq_ofNat_of_zero_le h0
  unfold cutV
  rw [HT.sIx_none, HT.sIx_nat]
  simp only [List.length_map, List.map_drop, Int.toNat_natCast]
  rw [show min k a.length = k by omega, List.take_of_length_le (by simp)]
theorem cut_mid {a : List Int} {i j : Int} (h0 : 0 ≤ i) (h1 : i ≤ j) : cutV (a.map V.int) (some i) (some j) = ((a.drop i.toNat).take (j - i).toNat).map V.int := by
  obtain ⟨m, rfl⟩ := Int.eq_ofNat_of_zero_le h0
  obtain ⟨n, rfl⟩ := Int.eq_ofNat_of_zero_le (Int.le_trans h0 h1)
  unfold cutV
  rw [HT.sIx_nat, HT.sIx_nat]
  simp only [List.length_map, List.map_take, List.map_drop, Int.toNat_natCast]
  have e : ((n : Int) - (m : Int)).toNat = n - m := by omega
  rw [e]
  by_cases q : m ≤ a.length
  · rw [show min m a.length = m by omega]
    by_cases q2 : n ≤ a.length
    · rw [show min n a.length = n by omega]
    · rw [show min n a.length = a.length by omega, List.take_of_length_le (by simp), List.take_of_length_le (by simp; omega)]
  · rw [List.drop_eq_nil_of_le (by simp; omega), List.drop_eq_nil_of_le (by simp; omega)]; simp

/-! ### exceptions of own classes, made without arguments -/
section
variable {X : Cx} {C : Addr} {bmB : List Value} {B newId initId : String} {x : Str} {p pos : Pos}
theorem pmk_own0 (F : ExcBaseFacts B newId initId bmB) (q : PySem.W.excIn X.K C bmB newId = true) (gC : X.mg x = some (.ref C)) (kC : PySem.W.keepIn X.K (.ref C) = true) (r : Raises X (.ref C)) (hg : Gl X x)
    (hdb : (x == ("__debug__" : Str)) = false := by decide) : PMk X (.Call (.Name x p) [] [] pos) (fun _ H Q => Q (.ref C) none H) := fun pins s σ H Q I h => by
  refine wpAny_Call_Name_kw (ld_glob I hg gC (PySem.W.callWith_K0 I.kIn kC ?_) hdb)
  obtain ⟨_, _, _, _, _, _, _, _, _, _, _, _, _, _, _, _, _, hC, hN, hi, T⟩ := exc_obj I.kIn q
  exact wpAny_call_exc_subT F T hC hN hi (fun _ _ hm => mk_of I hm r h (I.hok.gone hm.new)) (Nat.zero_le _)
end
/-- what the top tells of an own exception class -/
structure ExT (K : PySem.W.Frag) (mg : Str → Option Value) (x : Str) (C : Addr) : Prop where
  g : mg x = some (.ref C)
  x : PySem.W.excIn K C [.type "ValueError", .type "Exception", .type "BaseException", .type "object"] "ValueError.__new__" = true
  k : PySem.W.keepIn K (.ref C) = true
  b : PySem.W.subIn K (.ref C) (.type "BaseException") = some true
  t : PySem.W.typeIn K (.ref C) = some (.type "type")
  i : PySem.W.isClsIn K C = true
  s : PySem.W.subIn K (.ref C) (.ref C) = some true
section
variable {X : Cx} {C : Addr} {x : Str} {p pos : Pos}
theorem pmk_X (T : ExT X.K X.mg x C) (hg : Gl X x := by rfl) (hdb : (x == ("__debug__" : Str)) = false := by decide) : PMk X (.Call (.Name x p) [] [] pos) (fun _ H Q => Q (.ref C) none H) :=
  pmk_own0 PySem.F.excBase_ValueError T.x T.g T.k (raises_own T.b T.t) hg hdb
/-- what an own raising def lets out goes to its own wish -/
theorem passE {E : XK} {E1 : Value → Shared → Prop} (hs : X.stack = X.env :: X.outer) (hf : X.env.frame = some X.env.locals) (hex : X.ex = [])
    (hx : X.xe = fun e s' => wpAny (model X.prog X.w) X.A (leaving X.env e) (fun _ s'' => L2.CX X.prog X.w X.outer X.H_0 X.s_0 E e s'') E1 s') : ∀ σ, PassesAt (L2.CX X.prog X.w) X σ ((fun _ => E) σ) :=
  fun σ pins H s e s' I c => passes_call (takes_of hs hf hex hx) (fun _ _ _ _ z => z) pins σ H s e s' I c
end

/-! ### the same, for exceptions whose context is None (defs called in an except suite) -/
theorem pmk_XN {X : Cx} {C : Addr} {x : Str} {p pos : Pos} (T : ExT X.K X.mg x C) (hg : Gl X x := by rfl) (hdb : (x == ("__debug__" : Str)) = false := by decide) : L2N.PMk X (.Call (.Name x p) [] [] pos) (fun _ H Q => Q (.ref C) none H) := fun pins s σ H Q I h => by
  refine wpAny_Call_Name_kw (ld_glob I hg T.g (PySem.W.callWith_K0 I.kIn T.k ?_) hdb)
  obtain ⟨_, _, _, _, _, _, _, _, _, _, _, _, _, _, _, _, _, hC, hN, hi, U⟩ := exc_obj I.kIn T.x
  exact wpAny_call_exc_subT PySem.F.excBase_ValueError U hC hN hi (fun _ _ hm => L2N.mk_of I hm (raises_own T.b T.t) h (I.hok.gone hm.new)) (Nat.zero_le _)
theorem passEN {X : Cx} {E : XK} {E1 : Value → Shared → Prop} (hs : X.stack = X.env :: X.outer) (hf : X.env.frame = some X.env.locals) (hex : X.ex = [])
    (hx : X.xe = fun e s' => wpAny (model X.prog X.w) X.A (leaving X.env e) (fun _ s'' => L2N.CX X.prog X.w X.outer X.H_0 X.s_0 E e s'') E1 s') : ∀ σ, PassesAt (L2N.CX X.prog X.w) X σ ((fun _ => E) σ) :=
  fun σ pins H s e s' I c => L2N.passes_call (L2N.takes_of hs hf hex hx) (fun _ _ _ _ z => z) pins σ H s e s' I c
theorem passNN {X : Cx} : ∀ σ, PassesAt (L2N.CX X.prog X.w) X σ ((fun _ => E0) σ) := fun σ pins H s e s' I c => by
  obtain ⟨_, _, _, _, _, _, _, _, _, _, _, _, z⟩ := c
  exact z.elim
theorem okXN {P : Program} {w : World} {K : PySem.W.Frag} {mg : Str → Option Value} {base : Heap} {x qual : Str} {st : Stmt} {f : Addr} {fd : FuncData} {N ps : List Str} {k : Nat} {sp : Sp} (F : Fun K x qual st f fd) (S : FnScope N ps (defScope st)) (len : ∀ vs H Q E, sp vs H Q E → vs.length = ps.length)
    (hb : ∀ cdv A outer s H vs Q E, Room k (A.deeper (PyProof.Rows.envOfC qual (defScope st) s.heap.objs.size f cdv)) → sp vs H Q E →
      ∃ t, PSs (cxOf (L2N.CX P w) P w K mg base N qual (defScope st) f cdv A outer s H E) (defBody st) t ∧ t { nx := fun _ H' => Q .non H', rt := Q } (start N vs) H) : FnOk P w K mg base (L2N.CX P w) (k + 1) f fd ps sp := by
  obtain ⟨oc, od, kV, doc, pm, an, cdv, ct, osl, rfl, lk, hcd⟩ := F.ex
  exact fn_of lk hcd S len (hb cdv)

/-! ### fields, methods, dicts: their steps -/
section
variable {K : PySem.W.Frag} {σ : L2.St} {H : Hp} {Q : VK} {D : Ends} {ta tv td ty tx te : TE} {t u : TS} {x y z v : V} {f m : Str} {p a C dx : Addr} {fs fs' : List (Str × V)} {ts : TA} {sp : Sp} {E : L2.St → XK}
def rFldQ (K : PySem.W.Frag) (f : Str) (x : V) (H : Hp) (Q : VK) : Prop := ∃ a C dx fs v, x = .ref a ∧ H a = some (.ins C dx fs) ∧ Cls K C ∧ NoAttr K C f ∧ fs.lookup f = some v ∧ Q v H
theorem x_tfld (h : ta σ H fun x H1 => rFldQ K f x H1 Q) : tFld K ta f σ H Q := h
theorem x_fld (h : H p = some (.ins C dx fs)) (cl : Cls K C) (na : NoAttr K C f) (l : fs.lookup f = some v) (q : Q v H) : rFldQ K f (.ref p) H Q := ⟨p, C, dx, fs, v, rfl, h, cl, na, l, q⟩
def rSFld (K : PySem.W.Frag) (f : Str) (x y : V) (H : Hp) (R : Hp → Prop) : Prop := ∃ a C dx fs, x = .ref a ∧ H a = some (.ins C dx fs) ∧ Cls K C ∧ NoAttr K C f ∧ fs.length < 1000 ∧ R (upd H a (.ins C dx (putF f y fs)))
theorem x_tsf (h : tv σ H fun y H1 => ta σ H1 fun x H2 => rSFld K f x y H2 (D.nx σ)) : sFld K ta tv f D σ H := h
theorem x_sfl {R : Hp → Prop} (h : H p = some (.ins C dx fs)) (cl : Cls K C) (na : NoAttr K C f) (ln : fs.length < 1000) (e : putF f y fs = fs') (q : ∀ H1, H1 p = some (.ins C dx fs') → Kp (F1 p) H H1 → R H1) : rSFld K f (.ref p) y H R :=
  ⟨p, C, dx, fs, rfl, h, cl, na, ln, q _ (by rw [e]; exact upd_same) (Kp.put h id)⟩
def rAugQ (K : PySem.W.Frag) (f : Str) (x : V) (H : Hp) (R : Addr → Addr → V → Prop) : Prop := ∃ a C dx fs v, x = .ref a ∧ H a = some (.ins C dx fs) ∧ Cls K C ∧ NoAttr K C f ∧ fs.lookup f = some v ∧ R a C v
def rAugP (f : Str) (a C : Addr) (z : V) (H : Hp) (R : Hp → Prop) : Prop := ∃ dx' fs', H a = some (.ins C dx' fs') ∧ fs'.length < 1000 ∧ R (upd H a (.ins C dx' (putF f z fs')))
theorem x_aug {rd : V → V → Hp → VK → Prop} (h : ta σ H fun x H1 => rAugQ K f x H1 fun a C v => tv σ H1 fun y H2 => rd v y H2 fun z H3 => rAugP f a C z H3 (D.nx σ)) : sFldAug K ta tv rd f D σ H := by
  exact h
theorem x_augI {R : Addr → Addr → V → Prop} (h : H p = some (.ins C dx fs)) (cl : Cls K C) (na : NoAttr K C f) (l : fs.lookup f = some v) (q : R p C v) : rAugQ K f (.ref p) H R := ⟨p, C, dx, fs, v, rfl, h, cl, na, l, q⟩
theorem x_augP {R : Hp → Prop} (h : H p = some (.ins C dx fs)) (ln : fs.length < 1000) (e : putF f y fs = fs') (q : ∀ H1, H1 p = some (.ins C dx fs') → Kp (F1 p) H H1 → R H1) : rAugP f p C y H R :=
  ⟨dx, fs, h, ln, q _ (by rw [e]; exact upd_same) (Kp.put h id)⟩
theorem x_radd {i j : Int} (q : Q (.int (i + j)) H) : rAdd (.int i) (.int j) H Q := ⟨i, j, rfl, rfl, q⟩
theorem x_rsub {i j : Int} (q : Q (.int (i - j)) H) : rSub (.int i) (.int j) H Q := ⟨i, j, rfl, rfl, q⟩
def rMethQ (C : Addr) (m : Str) (x : V) (H : Hp) (R : Addr → Prop) : Prop := ∃ a dx fs, x = .ref a ∧ H a = some (.ins C dx fs) ∧ fs.lookup m = none ∧ R a
theorem x_tmt (h : ta σ H fun x H1 => rMethQ C m x H1 fun a => ts σ H1 fun vs H2 => sp (.ref a :: vs) H2 Q (E σ)) : tMethS C m sp E ta ts σ H Q := h
theorem x_mt {R : Addr → Prop} (h : H p = some (.ins C dx fs)) (l : fs.lookup m = none) (q : R p) : rMethQ C m (.ref p) H R := ⟨p, dx, fs, rfl, h, l, q⟩
theorem x_mk (h : ts σ H fun vs H1 => ∀ x dx, H1 x = none → H1 dx = none → dx ≠ x → sp (.ref x :: vs) (upd (upd H1 dx (.own x)) x (.ins C dx [])) (fun v H2 => v = .non ∧ Q (.ref x) H2) (E σ)) : tMakeS C sp E ts σ H Q := h
/-- d[k], k in d, d.get(k, z), d[k] = v, d.pop(k) -/
def rDGet (x y : V) (H : Hp) (Q : VK) : Prop := ∃ a v, x = .ref a ∧ DGet H a y (some v) ∧ Q v H
theorem x_tdg (h : td σ H fun x H1 => ty σ H1 fun y H2 => rDGet x y H2 Q) : tDGet td ty σ H Q := h
theorem x_dgI {kvs : List (Key × V)} {n : Int} (h : Rd H a (.dK kvs)) (e : valV kvs (Sum.inl n) = some v) (q : Q v H) : rDGet (.ref a) (.int n) H Q := ⟨a, v, rfl, .inl ⟨kvs, .inl n, h, rfl, e.symm⟩, q⟩
theorem x_dgS {kvs : List (Key × V)} {n : Str} (h : Rd H a (.dK kvs)) (e : valV kvs (Sum.inr n) = some v) (q : Q v H) : rDGet (.ref a) (.str n) H Q := ⟨a, v, rfl, .inl ⟨kvs, .inr n, h, rfl, e.symm⟩, q⟩
def rDIn (x y : V) (H : Hp) (Q : VK) : Prop := ∃ a o, x = .ref a ∧ DGet H a y o ∧ Q (.bl o.isSome) H
theorem x_tdi (h : ty σ H fun y H1 => td σ H1 fun x H2 => rDIn x y H2 Q) : tDIn ty td σ H Q := h
theorem x_diI {kvs : List (Key × V)} {n : Int} (h : Rd H a (.dK kvs)) (q : Q (.bl (valV kvs (Sum.inl n)).isSome) H) : rDIn (.ref a) (.int n) H Q := ⟨a, _, rfl, .inl ⟨kvs, .inl n, h, rfl, rfl⟩, q⟩
def rDNin (x y : V) (H : Hp) (Q : VK) : Prop := ∃ a o, x = .ref a ∧ DGet H a y o ∧ Q (.bl (!o.isSome)) H
theorem x_tdn (h : ty σ H fun y H1 => td σ H1 fun x H2 => rDNin x y H2 Q) : tDNotIn ty td σ H Q := h
theorem x_dnI {kvs : List (Key × V)} {n : Int} (h : Rd H a (.dK kvs)) (q : Q (.bl (!(valV kvs (Sum.inl n)).isSome)) H) : rDNin (.ref a) (.int n) H Q := ⟨a, _, rfl, .inl ⟨kvs, .inl n, h, rfl, rfl⟩, q⟩
def rDGet2 (x : V) (H : Hp) (R : Addr → Prop) : Prop := ∃ a, x = .ref a ∧ IsD H a ∧ R a
def rDGet2b (a : Addr) (y z : V) (H : Hp) (Q : VK) : Prop := ∃ o, DGet H a y o ∧ Q (o.getD z) H
theorem x_tg2 (h : td σ H fun x H1 => rDGet2 x H1 fun a => ty σ H1 fun y H2 => tx σ H2 fun z H3 => rDGet2b a y z H3 Q) : tDGet2 td ty tx σ H Q := h
theorem x_g2a {kvs : List (Key × V)} {R : Addr → Prop} (h : Rd H a (.dK kvs)) (q : R a) : rDGet2 (.ref a) H R := ⟨a, rfl, .inl ⟨kvs, h⟩, q⟩
theorem x_g2b {kvs : List (Key × V)} {n : Int} (h : Rd H a (.dK kvs)) (q : Q ((valV kvs (Sum.inl n)).getD z) H) : rDGet2b a (.int n) z H Q := ⟨_, .inl ⟨kvs, .inl n, h, rfl, rfl⟩, q⟩
def rDPut (x y v : V) (H : Hp) (R : Hp → Prop) : Prop := ∃ a H4, x = .ref a ∧ DPut H a y v H4 ∧ R H4
theorem x_tdp (h : tv σ H fun v H1 => td σ H1 fun x H2 => ty σ H2 fun y H3 => rDPut x y v H3 (D.nx σ)) : sDPut td ty tv D σ H := h
theorem x_dpI {kvs : List (Key × V)} {n : Int} {R : Hp → Prop} (h : H a = some (.dK kvs)) (z : kvs.length < 16777216) (q : ∀ H1, H1 a = some (.dK (putK kvs (Sum.inl n) v)) → Kp (F1 a) H H1 → R H1) : rDPut (.ref a) (.int n) v H R :=
  ⟨a, _, rfl, .inl ⟨kvs, .inl n, h, rfl, Nat.lt_of_lt_of_le z (by decide), rfl⟩, q _ upd_same (Kp.put h id)⟩
theorem x_dpS {kvs kvs' : List (Key × V)} {n : Str} {R : Hp → Prop} (h : H a = some (.dK kvs)) (e : putK kvs (Sum.inr n) v = kvs') (z : kvs.length < 16777216) (q : ∀ H1, H1 a = some (.dK kvs') → Kp (F1 a) H H1 → R H1) : rDPut (.ref a) (.str n) v H R :=
  ⟨a, _, rfl, .inl ⟨kvs, .inr n, h, rfl, Nat.lt_of_lt_of_le z (by decide), rfl⟩, q _ (by rw [e]; exact upd_same) (Kp.put h id)⟩
theorem x_dnew (h : ∀ p H1, H p = none → Kp F0 H H1 → H1 p = some (.dK []) → Q (.ref p) H1) : tDNewK σ H Q := fun p hp => h p _ hp (Kp.new hp) upd_same
theorem x_lenD {kvs : List (Key × V)} (h : H a = some (.dK kvs)) (q : Q (.int kvs.length) H) : (fun (xs : List V) (H : Hp) (Q : VK) => ∃ a kvs, xs = [V.ref a] ∧ H a = some (.dK kvs) ∧ Q (.int kvs.length) H) [.ref a] H Q := ⟨a, kvs, rfl, h, q⟩
/-- x is None -/
def rIsNQ : R2 := fun x y H Q => y = .non ∧ Q (.bl (decide (x = .non))) H
theorem o_isN {X : Cx} : OpR X (compareOp .Is) rIsNQ := op_isN
theorem x_isNi {i : Int} (q : Q (.bl false) H) : rIsNQ (.int i) .non H Q := ⟨rfl, q⟩
theorem x_isNr (q : Q (.bl false) H) : rIsNQ (.ref a) .non H Q := ⟨rfl, q⟩
theorem x_isNn (q : Q (.bl true) H) : rIsNQ .non .non H Q := ⟨rfl, q⟩
def rNotNQ : R2 := fun x y H Q => y = .non ∧ Q (.bl (!decide (x = .non))) H
theorem o_notN {X : Cx} : OpR X (compareOp .IsNot) rNotNQ := op_notN
theorem x_notNi {i : Int} (q : Q (.bl true) H) : rNotNQ (.int i) .non H Q := ⟨rfl, q⟩
theorem x_notNr (q : Q (.bl true) H) : rNotNQ (.ref a) .non H Q := ⟨rfl, q⟩
theorem x_notNn (q : Q (.bl false) H) : rNotNQ .non .non H Q := ⟨rfl, q⟩
end
/-- a repeated list -/
theorem x_rep {H : Hp} {Q : VK} {l : Addr} {k : Int} {v : V} (h : H l = some (.lst [v])) (h0 : 0 ≤ k) (h1 : k ≤ 1000000) (q : ∀ p H1, H p = none → Kp F0 H H1 → H1 p = some (.lst (List.replicate k.toNat v)) → Q (.ref p) H1) : rRep (.ref l) (.int k) H Q :=
  ⟨l, k, [v], rfl, rfl, h, by omega, by omega, by rw [sizeLine_eq]; simp only [List.length_singleton]; omega, fun p hp => q p _ hp (Kp.new hp) (by rw [upd_same]; congr 2; generalize k.toNat = n; induction n with | zero => rfl | succ n ih => rw [List.replicate_succ, List.flatten_cons, ih, List.replicate_succ]; rfl)⟩
/-- reversed(xs) -/
theorem Wk.rev {K : PySem.W.Frag} {a : Addr} {xs : List V} : Wk (Itv K a xs.length) (fun H => SqL K H a xs) xs.reverse where
  go := fun i H h g => by
    rw [List.length_reverse] at h
    exact ⟨h, xs, xs[xs.length - 1 - i], g, by rw [List.getElem?_eq_getElem (by omega)]⟩
  yld := fun i H x H' h g y => by
    rw [List.length_reverse] at h
    refine ⟨y.1.symm, ?_⟩
    rw [List.getElem?_reverse h]
    exact y.2 xs g
  stop := fun H _ => by show xs.length ≤ _; rw [List.length_reverse]; exact Nat.le_refl _
section
variable {K : PySem.W.Frag} {σ : L2.St} {H : Hp} {ts : TA} {R : It → Hp → Prop} {a : Addr}
def rRevQ (K : PySem.W.Frag) (vs : List V) (H : Hp) (R : It → Hp → Prop) : Prop := ∃ (a : Addr) (xs : List V), vs = [.ref a] ∧ SqL K H a xs ∧ R (Itv K a xs.length) H
theorem x_irev (h : ts σ H fun vs H1 => rRevQ K vs H1 R) : iRev K ts σ H R := h
theorem x_rev {xs : List V} (h : SqL K H a xs) (q : R (Itv K a xs.length) H) : rRevQ K [.ref a] H R := ⟨a, xs, rfl, h, q⟩
end
theorem pi_revK {X : Cx} {K : PySem.W.Frag} {tg e : Expr} {ta : TA} (hK : X.K = K) (h : PI X tg e (iRev X.K ta)) : PI X tg e (iRev K ta) := by subst hK; exact h
/-- a footprint and what a step makes of it -/
structure Stp (G G' : Addr → Prop) (H H' : Hp) : Prop where
  kp : Kp G H H'
  gr : ∀ b, G' b → G b ∨ H b = none
theorem Stp.refl (G : Addr → Prop) (H : Hp) : Stp G G H H := ⟨Kp.refl H, fun b h => .inl h⟩
theorem Stp.trans {G G1 G2 : Addr → Prop} {H H1 H2 : Hp} (s : Stp G G1 H H1) (t : Stp G1 G2 H1 H2) : Stp G G2 H H2 := by
  refine ⟨s.kp.trans t.kp s.gr, fun b g => ?_⟩
  rcases t.gr b g with h | h
  · exact s.gr b h
  · by_cases q : G b
    · exact .inl q
    · cases e : H b with
      | none => exact .inr rfl
      | some o => rw [s.kp.get e q] at h; cases h
theorem Stp.pure {G : Addr → Prop} {H H' : Hp} (k : Kp F0 H H') : Stp G G H H' := ⟨k.mono fun _ z => z.elim, fun b h => .inl h⟩
theorem Stp.kp0 {G G' : Addr → Prop} {H H' : Hp} {b : Addr} {o : HO} (s : Stp G G' H H') (h : H b = some o) (n : ¬ G b) : ¬ G' b := fun z => by
  rcases s.gr b z with q | q
  · exact n q
  · rw [h] at q; cases q

/-- isinstance(e, c) in the suite that caught e, the class as the reading tells it -/
theorem c_isE {X : Cx} {a D : Addr} {cls : Value} {d : Option Addr} {oe : Obj} {pn : List (Addr × Obj)} (C : ExcC X.K D) (hz : Zc cls d oe) (hf : ∃ vs, oe.data = .fields vs) :
    CallR (X.suite a ((a, oe) :: pn)) (.builtin "isinstance") (fun xs H Q => cls = .ref D ∧ d = none ∧ rIsE X.K D a xs H Q) := fun pins s σ H xs us Q I r h => by
  obtain ⟨rfl, rfl, h⟩ := h
  exact call_isE C hz hf pins s σ H xs us Q I r h
theorem at_of_lt {a : List Int} {i : Nat} (h : i < a.length) : (a.map V.int)[i]? = some (.int (a.getD i 0)) := by
  rw [List.getElem?_map, List.getD_eq_getElem?_getD, List.getElem?_eq_getElem h]; rfl
end NV
namespace NV
open PySem L2
/-! the text by places -/
def top (i : Nat) : Stmt := PySem.Challenge.pw_nearvault_k06_whole_pagers_and_power.main.body.getD i (.Pass ⟨0, 0, 0, 0⟩)
abbrev s__wall : Stmt := top 0
abbrev s_Device___init__ : Stmt := inClass (top 7) 0
abbrev s_Device_step : Stmt := inClass (top 7) 1
abbrev s_Device_write_page : Stmt := inClass (top 7) 2
abbrev s_Device_sync_pages : Stmt := inClass (top 7) 3
abbrev s_Device_append : Stmt := inClass (top 7) 4
abbrev s_Device_clear : Stmt := inClass (top 7) 5
abbrev s_Device_sync_log : Stmt := inClass (top 7) 6
abbrev s_Device_durable_page : Stmt := inClass (top 7) 7
abbrev s_Device_page : Stmt := inClass (top 7) 8
abbrev s_Device_log : Stmt := inClass (top 7) 9
abbrev s_Device_limit : Stmt := inClass (top 7) 10
abbrev s_Device_crash : Stmt := inClass (top 7) 11
abbrev s_Device_steps : Stmt := inClass (top 7) 12
abbrev s_Device_pending : Stmt := inClass (top 7) 13
abbrev s_write_number : Stmt := top 9
abbrev s_read_number : Stmt := top 10
abbrev s_write_group : Stmt := top 13
abbrev s_read_groups : Stmt := top 14
abbrev s_Pager___init__ : Stmt := inClass (top 18) 0
abbrev s_Pager_count_head : Stmt := inClass (top 18) 1
abbrev s_Pager_read : Stmt := inClass (top 18) 2
abbrev s_Pager_write : Stmt := inClass (top 18) 3
abbrev s_Pager_field : Stmt := inClass (top 18) 4
abbrev s_Pager_set_field : Stmt := inClass (top 18) 5
abbrev s_Pager_allocate : Stmt := inClass (top 18) 6
abbrev s_Pager_release : Stmt := inClass (top 18) 7
abbrev s_Pager_commit : Stmt := inClass (top 18) 8
abbrev s_Pager_checkpoint : Stmt := inClass (top 18) 9
abbrev s_Pager_rollback : Stmt := inClass (top 18) 10
abbrev s__law_draw : Stmt := top 20
abbrev s__law_change : Stmt := top 21
abbrev s__law_shown : Stmt := top 22
abbrev s__law_crash : Stmt := top 23
abbrev s__law_opened : Stmt := top 24
abbrev s__law_group_holds : Stmt := top 25
abbrev s__law_round : Stmt := top 26
abbrev s_law : Stmt := top 27
theorem sc__wall : FnScope ["k"] ["k"] (defScope s__wall) := ⟨rfl, rfl, rfl, by decide +kernel, rfl, by decide +kernel, by decide +kernel⟩
theorem sc_Device___init__ : FnScope ["self"] ["self"] (defScope s_Device___init__) := ⟨rfl, rfl, rfl, by decide +kernel, rfl, by decide +kernel, by decide +kernel⟩
theorem sc_Device_step : FnScope ["self"] ["self"] (defScope s_Device_step) := ⟨rfl, rfl, rfl, by decide +kernel, rfl, by decide +kernel, by decide +kernel⟩
theorem sc_Device_write_page : FnScope ["self", "number", "data"] ["self", "number", "data"] (defScope s_Device_write_page) := ⟨rfl, rfl, rfl, by decide +kernel, rfl, by decide +kernel, by decide +kernel⟩
theorem sc_Device_sync_pages : FnScope ["self", "number", "data"] ["self"] (defScope s_Device_sync_pages) := ⟨rfl, rfl, rfl, by decide +kernel, rfl, by decide +kernel, by decide +kernel⟩
theorem sc_Device_append : FnScope ["self", "data", "byte"] ["self", "data"] (defScope s_Device_append) := ⟨rfl, rfl, rfl, by decide +kernel, rfl, by decide +kernel, by decide +kernel⟩
theorem sc_Device_clear : FnScope ["self"] ["self"] (defScope s_Device_clear) := ⟨rfl, rfl, rfl, by decide +kernel, rfl, by decide +kernel, by decide +kernel⟩
theorem sc_Device_sync_log : FnScope ["self"] ["self"] (defScope s_Device_sync_log) := ⟨rfl, rfl, rfl, by decide +kernel, rfl, by decide +kernel, by decide +kernel⟩
theorem sc_Device_durable_page : FnScope ["self", "number"] ["self", "number"] (defScope s_Device_durable_page) := ⟨rfl, rfl, rfl, by decide +kernel, rfl, by decide +kernel, by decide +kernel⟩
theorem sc_Device_page : FnScope ["self", "number", "other", "data"] ["self", "number"] (defScope s_Device_page) := ⟨rfl, rfl, rfl, by decide +kernel, rfl, by decide +kernel, by decide +kernel⟩
theorem sc_Device_log : FnScope ["self", "data", "byte"] ["self"] (defScope s_Device_log) := ⟨rfl, rfl, rfl, by decide +kernel, rfl, by decide +kernel, by decide +kernel⟩
theorem sc_Device_limit : FnScope ["self", "steps"] ["self", "steps"] (defScope s_Device_limit) := ⟨rfl, rfl, rfl, by decide +kernel, rfl, by decide +kernel, by decide +kernel⟩
theorem sc_Device_crash : FnScope ["self", "fates", "kept", "place", "number", "data"] ["self", "fates", "kept"] (defScope s_Device_crash) := ⟨rfl, rfl, rfl, by decide +kernel, rfl, by decide +kernel, by decide +kernel⟩
theorem sc_Device_steps : FnScope ["self"] ["self"] (defScope s_Device_steps) := ⟨rfl, rfl, rfl, by decide +kernel, rfl, by decide +kernel, by decide +kernel⟩
theorem sc_Device_pending : FnScope ["self"] ["self"] (defScope s_Device_pending) := ⟨rfl, rfl, rfl, by decide +kernel, rfl, by decide +kernel, by decide +kernel⟩
theorem sc_write_number : FnScope ["width", "number", "k"] ["width", "number"] (defScope s_write_number) := ⟨rfl, rfl, rfl, by decide +kernel, rfl, by decide +kernel, by decide +kernel⟩
theorem sc_read_number : FnScope ["data", "place", "width", "number", "byte"] ["data", "place", "width"] (defScope s_read_number) := ⟨rfl, rfl, rfl, by decide +kernel, rfl, by decide +kernel, by decide +kernel⟩
theorem sc_write_group : FnScope ["pairs", "data", "number", "page"] ["pairs"] (defScope s_write_group) := ⟨rfl, rfl, rfl, by decide +kernel, rfl, by decide +kernel, by decide +kernel⟩
theorem sc_read_groups : FnScope ["data", "groups", "place", "count", "pairs", "k", "start"] ["data"] (defScope s_read_groups) := ⟨rfl, rfl, rfl, by decide +kernel, rfl, by decide +kernel, by decide +kernel⟩
theorem sc_Pager___init__ : FnScope ["self", "device", "log", "pairs", "number", "data"] ["self", "device"] (defScope s_Pager___init__) := ⟨rfl, rfl, rfl, by decide +kernel, rfl, by decide +kernel, by decide +kernel⟩
theorem sc_Pager_count_head : FnScope ["self"] ["self"] (defScope s_Pager_count_head) := ⟨rfl, rfl, rfl, by decide +kernel, rfl, by decide +kernel, by decide +kernel⟩
theorem sc_Pager_read : FnScope ["self", "number"] ["self", "number"] (defScope s_Pager_read) := ⟨rfl, rfl, rfl, by decide +kernel, rfl, by decide +kernel, by decide +kernel⟩
theorem sc_Pager_write : FnScope ["self", "number", "data"] ["self", "number", "data"] (defScope s_Pager_write) := ⟨rfl, rfl, rfl, by decide +kernel, rfl, by decide +kernel, by decide +kernel⟩
theorem sc_Pager_field : FnScope ["self", "k"] ["self", "k"] (defScope s_Pager_field) := ⟨rfl, rfl, rfl, by decide +kernel, rfl, by decide +kernel, by decide +kernel⟩
theorem sc_Pager_set_field : FnScope ["self", "k", "number", "data"] ["self", "k", "number"] (defScope s_Pager_set_field) := ⟨rfl, rfl, rfl, by decide +kernel, rfl, by decide +kernel, by decide +kernel⟩
theorem sc_Pager_allocate : FnScope ["self"] ["self"] (defScope s_Pager_allocate) := ⟨rfl, rfl, rfl, by decide +kernel, rfl, by decide +kernel, by decide +kernel⟩
theorem sc_Pager_release : FnScope ["self", "number"] ["self", "number"] (defScope s_Pager_release) := ⟨rfl, rfl, rfl, by decide +kernel, rfl, by decide +kernel, by decide +kernel⟩
theorem sc_Pager_commit : FnScope ["self", "number"] ["self"] (defScope s_Pager_commit) := ⟨rfl, rfl, rfl, by decide +kernel, rfl, by decide +kernel, by decide +kernel⟩
theorem sc_Pager_checkpoint : FnScope ["self", "number"] ["self"] (defScope s_Pager_checkpoint) := ⟨rfl, rfl, rfl, by decide +kernel, rfl, by decide +kernel, by decide +kernel⟩
theorem sc_Pager_rollback : FnScope ["self"] ["self"] (defScope s_Pager_rollback) := ⟨rfl, rfl, rfl, by decide +kernel, rfl, by decide +kernel, by decide +kernel⟩
theorem sc__law_draw : FnScope ["_law_state", "_law_script", "_law_size", "_law_cell", "_law_mixed", "_law_digit"] ["_law_state", "_law_script", "_law_size"] (defScope s__law_draw) := ⟨rfl, rfl, rfl, by decide +kernel, rfl, by decide +kernel, by decide +kernel⟩
theorem sc__law_change : FnScope ["_law_state", "_law_script", "_law_pager", "_law_model", "_law_turn", "_law_numbers", "_law_k", "_law_number", "_law_data"] ["_law_state", "_law_script", "_law_pager", "_law_model", "_law_turn"] (defScope s__law_change) := ⟨rfl, rfl, rfl, by decide +kernel, rfl, by decide +kernel, by decide +kernel⟩
theorem sc__law_shown : FnScope ["_law_pager", "_law_model", "_law_number"] ["_law_pager"] (defScope s__law_shown) := ⟨rfl, rfl, rfl, by decide +kernel, rfl, by decide +kernel, by decide +kernel⟩
theorem sc__law_crash : FnScope ["_law_state", "_law_script", "_law_device", "_law_writes", "_law_steps", "_law_fates", "_law_kept", "_law_k"] ["_law_state", "_law_script", "_law_device"] (defScope s__law_crash) := ⟨rfl, rfl, rfl, by decide +kernel, rfl, by decide +kernel, by decide +kernel⟩
theorem sc__law_opened : FnScope ["_law_state", "_law_script", "_law_device", "_law_turn", "_law_power", "_law_start", "_law_pager"] ["_law_state", "_law_script", "_law_device"] (defScope s__law_opened) := ⟨rfl, rfl, rfl, by decide +kernel, rfl, by decide +kernel, by decide +kernel⟩
theorem sc__law_group_holds : FnScope ["_law_device", "_law_pager", "_law_length", "_law_numbers", "_law_groups", "_law_pair"] ["_law_device", "_law_pager", "_law_length", "_law_numbers"] (defScope s__law_group_holds) := ⟨rfl, rfl, rfl, by decide +kernel, rfl, by decide +kernel, by decide +kernel⟩
theorem sc__law_round : FnScope ["_law_state", "_law_script", "_law_device", "_law_pager", "_law_model", "_law_turn", "_law_numbers", "_law_length"] ["_law_state", "_law_script", "_law_device", "_law_pager", "_law_model", "_law_turn"] (defScope s__law_round) := ⟨rfl, rfl, rfl, by decide +kernel, rfl, by decide +kernel, by decide +kernel⟩
theorem sc_law : FnScope ["_law_script", "_law_state", "_law_device", "_law_pager", "_law_kept", "_law_turn", "_law_power", "_law_start", "_law_model", "_law_pages", "_law_word", "_law_used", "_law_steps"] ["_law_script"] (defScope s_law) := ⟨rfl, rfl, rfl, by decide +kernel, rfl, by decide +kernel, by decide +kernel⟩
/-- the addresses of the classes -/
structure Cl where
  VaultError : Addr
  PowerCut : Addr
  Device : Addr
  Pager : Addr
def F_Device1 (v0 : V) : List (Str × V) := [("pages", v0)]
def F_Device2 (v0 v1 : V) : List (Str × V) := [("pages", v0), ("page_writes", v1)]
def F_Device3 (v0 v1 v2 : V) : List (Str × V) := [("pages", v0), ("page_writes", v1), ("durable_log", v2)]
def F_Device4 (v0 v1 v2 v3 : V) : List (Str × V) := [("pages", v0), ("page_writes", v1), ("durable_log", v2), ("log_steps", v3)]
def F_Device5 (v0 v1 v2 v3 v4 : V) : List (Str × V) := [("pages", v0), ("page_writes", v1), ("durable_log", v2), ("log_steps", v3), ("done", v4)]
def F_Device (v0 v1 v2 v3 v4 v5 : V) : List (Str × V) := [("pages", v0), ("page_writes", v1), ("durable_log", v2), ("log_steps", v3), ("done", v4), ("most", v5)]
theorem lk_Device_pages {v0 v1 v2 v3 v4 v5 : V} : (F_Device v0 v1 v2 v3 v4 v5).lookup ("pages" : Str) = some v0 := by kernel_rfl
theorem pt_Device_pages {v0 v1 v2 v3 v4 v5 : V} {u : V} : putF "pages" u (F_Device v0 v1 v2 v3 v4 v5) = (F_Device u v1 v2 v3 v4 v5) := by kernel_rfl
theorem pi_Device_pages {v0 : V} : putF "pages" v0 ([] : List (Str × V)) = (F_Device1 v0) := by kernel_rfl
theorem ln_Device_1 {v0 : V} : (F_Device1 v0).length < 1000 := by show 1 < 1000; decide
theorem lk_Device_page_writes {v0 v1 v2 v3 v4 v5 : V} : (F_Device v0 v1 v2 v3 v4 v5).lookup ("page_writes" : Str) = some v1 := by kernel_rfl
theorem pt_Device_page_writes {v0 v1 v2 v3 v4 v5 : V} {u : V} : putF "page_writes" u (F_Device v0 v1 v2 v3 v4 v5) = (F_Device v0 u v2 v3 v4 v5) := by kernel_rfl
theorem pi_Device_page_writes {v0 v1 : V} : putF "page_writes" v1 (F_Device1 v0) = (F_Device2 v0 v1) := by kernel_rfl
theorem li_Device_pages_1 {v0 : V} : (F_Device1 v0).lookup ("pages" : Str) = some v0 := by kernel_rfl
theorem ln_Device_2 {v0 v1 : V} : (F_Device2 v0 v1).length < 1000 := by show 2 < 1000; decide
theorem lk_Device_durable_log {v0 v1 v2 v3 v4 v5 : V} : (F_Device v0 v1 v2 v3 v4 v5).lookup ("durable_log" : Str) = some v2 := by kernel_rfl
theorem pt_Device_durable_log {v0 v1 v2 v3 v4 v5 : V} {u : V} : putF "durable_log" u (F_Device v0 v1 v2 v3 v4 v5) = (F_Device v0 v1 u v3 v4 v5) := by kernel_rfl
theorem pi_Device_durable_log {v0 v1 v2 : V} : putF "durable_log" v2 (F_Device2 v0 v1) = (F_Device3 v0 v1 v2) := by kernel_rfl
theorem li_Device_pages_2 {v0 v1 : V} : (F_Device2 v0 v1).lookup ("pages" : Str) = some v0 := by kernel_rfl
theorem li_Device_page_writes_2 {v0 v1 : V} : (F_Device2 v0 v1).lookup ("page_writes" : Str) = some v1 := by kernel_rfl
theorem ln_Device_3 {v0 v1 v2 : V} : (F_Device3 v0 v1 v2).length < 1000 := by show 3 < 1000; decide
theorem lk_Device_log_steps {v0 v1 v2 v3 v4 v5 : V} : (F_Device v0 v1 v2 v3 v4 v5).lookup ("log_steps" : Str) = some v3 := by kernel_rfl
theorem pt_Device_log_steps {v0 v1 v2 v3 v4 v5 : V} {u : V} : putF "log_steps" u (F_Device v0 v1 v2 v3 v4 v5) = (F_Device v0 v1 v2 u v4 v5) := by kernel_rfl
theorem pi_Device_log_steps {v0 v1 v2 v3 : V} : putF "log_steps" v3 (F_Device3 v0 v1 v2) = (F_Device4 v0 v1 v2 v3) := by kernel_rfl
theorem li_Device_pages_3 {v0 v1 v2 : V} : (F_Device3 v0 v1 v2).lookup ("pages" : Str) = some v0 := by kernel_rfl
theorem li_Device_page_writes_3 {v0 v1 v2 : V} : (F_Device3 v0 v1 v2).lookup ("page_writes" : Str) = some v1 := by kernel_rfl
theorem li_Device_durable_log_3 {v0 v1 v2 : V} : (F_Device3 v0 v1 v2).lookup ("durable_log" : Str) = some v2 := by kernel_rfl
theorem ln_Device_4 {v0 v1 v2 v3 : V} : (F_Device4 v0 v1 v2 v3).length < 1000 := by show 4 < 1000; decide
theorem lk_Device_done {v0 v1 v2 v3 v4 v5 : V} : (F_Device v0 v1 v2 v3 v4 v5).lookup ("done" : Str) = some v4 := by kernel_rfl
theorem pt_Device_done {v0 v1 v2 v3 v4 v5 : V} {u : V} : putF "done" u (F_Device v0 v1 v2 v3 v4 v5) = (F_Device v0 v1 v2 v3 u v5) := by kernel_rfl
theorem pi_Device_done {v0 v1 v2 v3 v4 : V} : putF "done" v4 (F_Device4 v0 v1 v2 v3) = (F_Device5 v0 v1 v2 v3 v4) := by kernel_rfl
theorem li_Device_pages_4 {v0 v1 v2 v3 : V} : (F_Device4 v0 v1 v2 v3).lookup ("pages" : Str) = some v0 := by kernel_rfl
theorem li_Device_page_writes_4 {v0 v1 v2 v3 : V} : (F_Device4 v0 v1 v2 v3).lookup ("page_writes" : Str) = some v1 := by kernel_rfl
theorem li_Device_durable_log_4 {v0 v1 v2 v3 : V} : (F_Device4 v0 v1 v2 v3).lookup ("durable_log" : Str) = some v2 := by kernel_rfl
theorem li_Device_log_steps_4 {v0 v1 v2 v3 : V} : (F_Device4 v0 v1 v2 v3).lookup ("log_steps" : Str) = some v3 := by kernel_rfl
theorem ln_Device_5 {v0 v1 v2 v3 v4 : V} : (F_Device5 v0 v1 v2 v3 v4).length < 1000 := by show 5 < 1000; decide
theorem lk_Device_most {v0 v1 v2 v3 v4 v5 : V} : (F_Device v0 v1 v2 v3 v4 v5).lookup ("most" : Str) = some v5 := by kernel_rfl
theorem pt_Device_most {v0 v1 v2 v3 v4 v5 : V} {u : V} : putF "most" u (F_Device v0 v1 v2 v3 v4 v5) = (F_Device v0 v1 v2 v3 v4 u) := by kernel_rfl
theorem pi_Device_most {v0 v1 v2 v3 v4 v5 : V} : putF "most" v5 (F_Device5 v0 v1 v2 v3 v4) = (F_Device v0 v1 v2 v3 v4 v5) := by kernel_rfl
theorem li_Device_pages_5 {v0 v1 v2 v3 v4 : V} : (F_Device5 v0 v1 v2 v3 v4).lookup ("pages" : Str) = some v0 := by kernel_rfl
theorem li_Device_page_writes_5 {v0 v1 v2 v3 v4 : V} : (F_Device5 v0 v1 v2 v3 v4).lookup ("page_writes" : Str) = some v1 := by kernel_rfl
theorem li_Device_durable_log_5 {v0 v1 v2 v3 v4 : V} : (F_Device5 v0 v1 v2 v3 v4).lookup ("durable_log" : Str) = some v2 := by kernel_rfl
theorem li_Device_log_steps_5 {v0 v1 v2 v3 v4 : V} : (F_Device5 v0 v1 v2 v3 v4).lookup ("log_steps" : Str) = some v3 := by kernel_rfl
theorem li_Device_done_5 {v0 v1 v2 v3 v4 : V} : (F_Device5 v0 v1 v2 v3 v4).lookup ("done" : Str) = some v4 := by kernel_rfl
theorem ln_Device_6 {v0 v1 v2 v3 v4 v5 : V} : (F_Device v0 v1 v2 v3 v4 v5).length < 1000 := by show 6 < 1000; decide
theorem no_Device_step {v0 v1 v2 v3 v4 v5 : V} : (F_Device v0 v1 v2 v3 v4 v5).lookup ("step" : Str) = none := by kernel_rfl
theorem ni_Device_step_1 {v0 : V} : (F_Device1 v0).lookup ("step" : Str) = none := by kernel_rfl
theorem ni_Device_step_2 {v0 v1 : V} : (F_Device2 v0 v1).lookup ("step" : Str) = none := by kernel_rfl
theorem ni_Device_step_3 {v0 v1 v2 : V} : (F_Device3 v0 v1 v2).lookup ("step" : Str) = none := by kernel_rfl
theorem ni_Device_step_4 {v0 v1 v2 v3 : V} : (F_Device4 v0 v1 v2 v3).lookup ("step" : Str) = none := by kernel_rfl
theorem ni_Device_step_5 {v0 v1 v2 v3 v4 : V} : (F_Device5 v0 v1 v2 v3 v4).lookup ("step" : Str) = none := by kernel_rfl
theorem no_Device_write_page {v0 v1 v2 v3 v4 v5 : V} : (F_Device v0 v1 v2 v3 v4 v5).lookup ("write_page" : Str) = none := by kernel_rfl
theorem ni_Device_write_page_1 {v0 : V} : (F_Device1 v0).lookup ("write_page" : Str) = none := by kernel_rfl
theorem ni_Device_write_page_2 {v0 v1 : V} : (F_Device2 v0 v1).lookup ("write_page" : Str) = none := by kernel_rfl
theorem ni_Device_write_page_3 {v0 v1 v2 : V} : (F_Device3 v0 v1 v2).lookup ("write_page" : Str) = none := by kernel_rfl
theorem ni_Device_write_page_4 {v0 v1 v2 v3 : V} : (F_Device4 v0 v1 v2 v3).lookup ("write_page" : Str) = none := by kernel_rfl
theorem ni_Device_write_page_5 {v0 v1 v2 v3 v4 : V} : (F_Device5 v0 v1 v2 v3 v4).lookup ("write_page" : Str) = none := by kernel_rfl
theorem no_Device_sync_pages {v0 v1 v2 v3 v4 v5 : V} : (F_Device v0 v1 v2 v3 v4 v5).lookup ("sync_pages" : Str) = none := by kernel_rfl
theorem ni_Device_sync_pages_1 {v0 : V} : (F_Device1 v0).lookup ("sync_pages" : Str) = none := by kernel_rfl
theorem ni_Device_sync_pages_2 {v0 v1 : V} : (F_Device2 v0 v1).lookup ("sync_pages" : Str) = none := by kernel_rfl
theorem ni_Device_sync_pages_3 {v0 v1 v2 : V} : (F_Device3 v0 v1 v2).lookup ("sync_pages" : Str) = none := by kernel_rfl
theorem ni_Device_sync_pages_4 {v0 v1 v2 v3 : V} : (F_Device4 v0 v1 v2 v3).lookup ("sync_pages" : Str) = none := by kernel_rfl
theorem ni_Device_sync_pages_5 {v0 v1 v2 v3 v4 : V} : (F_Device5 v0 v1 v2 v3 v4).lookup ("sync_pages" : Str) = none := by kernel_rfl
theorem no_Device_append {v0 v1 v2 v3 v4 v5 : V} : (F_Device v0 v1 v2 v3 v4 v5).lookup ("append" : Str) = none := by kernel_rfl
theorem ni_Device_append_1 {v0 : V} : (F_Device1 v0).lookup ("append" : Str) = none := by kernel_rfl
theorem ni_Device_append_2 {v0 v1 : V} : (F_Device2 v0 v1).lookup ("append" : Str) = none := by kernel_rfl
theorem ni_Device_append_3 {v0 v1 v2 : V} : (F_Device3 v0 v1 v2).lookup ("append" : Str) = none := by kernel_rfl
theorem ni_Device_append_4 {v0 v1 v2 v3 : V} : (F_Device4 v0 v1 v2 v3).lookup ("append" : Str) = none := by kernel_rfl
theorem ni_Device_append_5 {v0 v1 v2 v3 v4 : V} : (F_Device5 v0 v1 v2 v3 v4).lookup ("append" : Str) = none := by kernel_rfl
theorem no_Device_clear {v0 v1 v2 v3 v4 v5 : V} : (F_Device v0 v1 v2 v3 v4 v5).lookup ("clear" : Str) = none := by kernel_rfl
theorem ni_Device_clear_1 {v0 : V} : (F_Device1 v0).lookup ("clear" : Str) = none := by kernel_rfl
theorem ni_Device_clear_2 {v0 v1 : V} : (F_Device2 v0 v1).lookup ("clear" : Str) = none := by kernel_rfl
theorem ni_Device_clear_3 {v0 v1 v2 : V} : (F_Device3 v0 v1 v2).lookup ("clear" : Str) = none := by kernel_rfl
theorem ni_Device_clear_4 {v0 v1 v2 v3 : V} : (F_Device4 v0 v1 v2 v3).lookup ("clear" : Str) = none := by kernel_rfl
theorem ni_Device_clear_5 {v0 v1 v2 v3 v4 : V} : (F_Device5 v0 v1 v2 v3 v4).lookup ("clear" : Str) = none := by kernel_rfl
theorem no_Device_sync_log {v0 v1 v2 v3 v4 v5 : V} : (F_Device v0 v1 v2 v3 v4 v5).lookup ("sync_log" : Str) = none := by kernel_rfl
theorem ni_Device_sync_log_1 {v0 : V} : (F_Device1 v0).lookup ("sync_log" : Str) = none := by kernel_rfl
theorem ni_Device_sync_log_2 {v0 v1 : V} : (F_Device2 v0 v1).lookup ("sync_log" : Str) = none := by kernel_rfl
theorem ni_Device_sync_log_3 {v0 v1 v2 : V} : (F_Device3 v0 v1 v2).lookup ("sync_log" : Str) = none := by kernel_rfl
theorem ni_Device_sync_log_4 {v0 v1 v2 v3 : V} : (F_Device4 v0 v1 v2 v3).lookup ("sync_log" : Str) = none := by kernel_rfl
theorem ni_Device_sync_log_5 {v0 v1 v2 v3 v4 : V} : (F_Device5 v0 v1 v2 v3 v4).lookup ("sync_log" : Str) = none := by kernel_rfl
theorem no_Device_durable_page {v0 v1 v2 v3 v4 v5 : V} : (F_Device v0 v1 v2 v3 v4 v5).lookup ("durable_page" : Str) = none := by kernel_rfl
theorem ni_Device_durable_page_1 {v0 : V} : (F_Device1 v0).lookup ("durable_page" : Str) = none := by kernel_rfl
theorem ni_Device_durable_page_2 {v0 v1 : V} : (F_Device2 v0 v1).lookup ("durable_page" : Str) = none := by kernel_rfl
theorem ni_Device_durable_page_3 {v0 v1 v2 : V} : (F_Device3 v0 v1 v2).lookup ("durable_page" : Str) = none := by kernel_rfl
theorem ni_Device_durable_page_4 {v0 v1 v2 v3 : V} : (F_Device4 v0 v1 v2 v3).lookup ("durable_page" : Str) = none := by kernel_rfl
theorem ni_Device_durable_page_5 {v0 v1 v2 v3 v4 : V} : (F_Device5 v0 v1 v2 v3 v4).lookup ("durable_page" : Str) = none := by kernel_rfl
theorem no_Device_page {v0 v1 v2 v3 v4 v5 : V} : (F_Device v0 v1 v2 v3 v4 v5).lookup ("page" : Str) = none := by kernel_rfl
theorem ni_Device_page_1 {v0 : V} : (F_Device1 v0).lookup ("page" : Str) = none := by kernel_rfl
theorem ni_Device_page_2 {v0 v1 : V} : (F_Device2 v0 v1).lookup ("page" : Str) = none := by kernel_rfl
theorem ni_Device_page_3 {v0 v1 v2 : V} : (F_Device3 v0 v1 v2).lookup ("page" : Str) = none := by kernel_rfl
theorem ni_Device_page_4 {v0 v1 v2 v3 : V} : (F_Device4 v0 v1 v2 v3).lookup ("page" : Str) = none := by kernel_rfl
theorem ni_Device_page_5 {v0 v1 v2 v3 v4 : V} : (F_Device5 v0 v1 v2 v3 v4).lookup ("page" : Str) = none := by kernel_rfl
theorem no_Device_log {v0 v1 v2 v3 v4 v5 : V} : (F_Device v0 v1 v2 v3 v4 v5).lookup ("log" : Str) = none := by kernel_rfl
theorem ni_Device_log_1 {v0 : V} : (F_Device1 v0).lookup ("log" : Str) = none := by kernel_rfl
theorem ni_Device_log_2 {v0 v1 : V} : (F_Device2 v0 v1).lookup ("log" : Str) = none := by kernel_rfl
theorem ni_Device_log_3 {v0 v1 v2 : V} : (F_Device3 v0 v1 v2).lookup ("log" : Str) = none := by kernel_rfl
theorem ni_Device_log_4 {v0 v1 v2 v3 : V} : (F_Device4 v0 v1 v2 v3).lookup ("log" : Str) = none := by kernel_rfl
theorem ni_Device_log_5 {v0 v1 v2 v3 v4 : V} : (F_Device5 v0 v1 v2 v3 v4).lookup ("log" : Str) = none := by kernel_rfl
theorem no_Device_limit {v0 v1 v2 v3 v4 v5 : V} : (F_Device v0 v1 v2 v3 v4 v5).lookup ("limit" : Str) = none := by kernel_rfl
theorem ni_Device_limit_1 {v0 : V} : (F_Device1 v0).lookup ("limit" : Str) = none := by kernel_rfl
theorem ni_Device_limit_2 {v0 v1 : V} : (F_Device2 v0 v1).lookup ("limit" : Str) = none := by kernel_rfl
theorem ni_Device_limit_3 {v0 v1 v2 : V} : (F_Device3 v0 v1 v2).lookup ("limit" : Str) = none := by kernel_rfl
theorem ni_Device_limit_4 {v0 v1 v2 v3 : V} : (F_Device4 v0 v1 v2 v3).lookup ("limit" : Str) = none := by kernel_rfl
theorem ni_Device_limit_5 {v0 v1 v2 v3 v4 : V} : (F_Device5 v0 v1 v2 v3 v4).lookup ("limit" : Str) = none := by kernel_rfl
theorem no_Device_crash {v0 v1 v2 v3 v4 v5 : V} : (F_Device v0 v1 v2 v3 v4 v5).lookup ("crash" : Str) = none := by kernel_rfl
theorem ni_Device_crash_1 {v0 : V} : (F_Device1 v0).lookup ("crash" : Str) = none := by kernel_rfl
theorem ni_Device_crash_2 {v0 v1 : V} : (F_Device2 v0 v1).lookup ("crash" : Str) = none := by kernel_rfl
theorem ni_Device_crash_3 {v0 v1 v2 : V} : (F_Device3 v0 v1 v2).lookup ("crash" : Str) = none := by kernel_rfl
theorem ni_Device_crash_4 {v0 v1 v2 v3 : V} : (F_Device4 v0 v1 v2 v3).lookup ("crash" : Str) = none := by kernel_rfl
theorem ni_Device_crash_5 {v0 v1 v2 v3 v4 : V} : (F_Device5 v0 v1 v2 v3 v4).lookup ("crash" : Str) = none := by kernel_rfl
theorem no_Device_steps {v0 v1 v2 v3 v4 v5 : V} : (F_Device v0 v1 v2 v3 v4 v5).lookup ("steps" : Str) = none := by kernel_rfl
theorem ni_Device_steps_1 {v0 : V} : (F_Device1 v0).lookup ("steps" : Str) = none := by kernel_rfl
theorem ni_Device_steps_2 {v0 v1 : V} : (F_Device2 v0 v1).lookup ("steps" : Str) = none := by kernel_rfl
theorem ni_Device_steps_3 {v0 v1 v2 : V} : (F_Device3 v0 v1 v2).lookup ("steps" : Str) = none := by kernel_rfl
theorem ni_Device_steps_4 {v0 v1 v2 v3 : V} : (F_Device4 v0 v1 v2 v3).lookup ("steps" : Str) = none := by kernel_rfl
theorem ni_Device_steps_5 {v0 v1 v2 v3 v4 : V} : (F_Device5 v0 v1 v2 v3 v4).lookup ("steps" : Str) = none := by kernel_rfl
theorem no_Device_pending {v0 v1 v2 v3 v4 v5 : V} : (F_Device v0 v1 v2 v3 v4 v5).lookup ("pending" : Str) = none := by kernel_rfl
theorem ni_Device_pending_1 {v0 : V} : (F_Device1 v0).lookup ("pending" : Str) = none := by kernel_rfl
theorem ni_Device_pending_2 {v0 v1 : V} : (F_Device2 v0 v1).lookup ("pending" : Str) = none := by kernel_rfl
theorem ni_Device_pending_3 {v0 v1 v2 : V} : (F_Device3 v0 v1 v2).lookup ("pending" : Str) = none := by kernel_rfl
theorem ni_Device_pending_4 {v0 v1 v2 v3 : V} : (F_Device4 v0 v1 v2 v3).lookup ("pending" : Str) = none := by kernel_rfl
theorem ni_Device_pending_5 {v0 v1 v2 v3 v4 : V} : (F_Device5 v0 v1 v2 v3 v4).lookup ("pending" : Str) = none := by kernel_rfl
def F_Pager1 (v0 : V) : List (Str × V) := [("device", v0)]
def F_Pager2 (v0 v1 : V) : List (Str × V) := [("device", v0), ("committed", v1)]
def F_Pager (v0 v1 v2 : V) : List (Str × V) := [("device", v0), ("committed", v1), ("dirty", v2)]
theorem lk_Pager_device {v0 v1 v2 : V} : (F_Pager v0 v1 v2).lookup ("device" : Str) = some v0 := by kernel_rfl
theorem pt_Pager_device {v0 v1 v2 : V} {u : V} : putF "device" u (F_Pager v0 v1 v2) = (F_Pager u v1 v2) := by kernel_rfl
theorem pi_Pager_device {v0 : V} : putF "device" v0 ([] : List (Str × V)) = (F_Pager1 v0) := by kernel_rfl
theorem ln_Pager_1 {v0 : V} : (F_Pager1 v0).length < 1000 := by show 1 < 1000; decide
theorem lk_Pager_committed {v0 v1 v2 : V} : (F_Pager v0 v1 v2).lookup ("committed" : Str) = some v1 := by kernel_rfl
theorem pt_Pager_committed {v0 v1 v2 : V} {u : V} : putF "committed" u (F_Pager v0 v1 v2) = (F_Pager v0 u v2) := by kernel_rfl
theorem pi_Pager_committed {v0 v1 : V} : putF "committed" v1 (F_Pager1 v0) = (F_Pager2 v0 v1) := by kernel_rfl
theorem li_Pager_device_1 {v0 : V} : (F_Pager1 v0).lookup ("device" : Str) = some v0 := by kernel_rfl
theorem ln_Pager_2 {v0 v1 : V} : (F_Pager2 v0 v1).length < 1000 := by show 2 < 1000; decide
theorem lk_Pager_dirty {v0 v1 v2 : V} : (F_Pager v0 v1 v2).lookup ("dirty" : Str) = some v2 := by kernel_rfl
theorem pt_Pager_dirty {v0 v1 v2 : V} {u : V} : putF "dirty" u (F_Pager v0 v1 v2) = (F_Pager v0 v1 u) := by kernel_rfl
theorem pi_Pager_dirty {v0 v1 v2 : V} : putF "dirty" v2 (F_Pager2 v0 v1) = (F_Pager v0 v1 v2) := by kernel_rfl
theorem li_Pager_device_2 {v0 v1 : V} : (F_Pager2 v0 v1).lookup ("device" : Str) = some v0 := by kernel_rfl
theorem li_Pager_committed_2 {v0 v1 : V} : (F_Pager2 v0 v1).lookup ("committed" : Str) = some v1 := by kernel_rfl
theorem ln_Pager_3 {v0 v1 v2 : V} : (F_Pager v0 v1 v2).length < 1000 := by show 3 < 1000; decide
theorem no_Pager_count_head {v0 v1 v2 : V} : (F_Pager v0 v1 v2).lookup ("count_head" : Str) = none := by kernel_rfl
theorem ni_Pager_count_head_1 {v0 : V} : (F_Pager1 v0).lookup ("count_head" : Str) = none := by kernel_rfl
theorem ni_Pager_count_head_2 {v0 v1 : V} : (F_Pager2 v0 v1).lookup ("count_head" : Str) = none := by kernel_rfl
theorem no_Pager_read {v0 v1 v2 : V} : (F_Pager v0 v1 v2).lookup ("read" : Str) = none := by kernel_rfl
theorem ni_Pager_read_1 {v0 : V} : (F_Pager1 v0).lookup ("read" : Str) = none := by kernel_rfl
theorem ni_Pager_read_2 {v0 v1 : V} : (F_Pager2 v0 v1).lookup ("read" : Str) = none := by kernel_rfl
theorem no_Pager_write {v0 v1 v2 : V} : (F_Pager v0 v1 v2).lookup ("write" : Str) = none := by kernel_rfl
theorem ni_Pager_write_1 {v0 : V} : (F_Pager1 v0).lookup ("write" : Str) = none := by kernel_rfl
theorem ni_Pager_write_2 {v0 v1 : V} : (F_Pager2 v0 v1).lookup ("write" : Str) = none := by kernel_rfl
theorem no_Pager_field {v0 v1 v2 : V} : (F_Pager v0 v1 v2).lookup ("field" : Str) = none := by kernel_rfl
theorem ni_Pager_field_1 {v0 : V} : (F_Pager1 v0).lookup ("field" : Str) = none := by kernel_rfl
theorem ni_Pager_field_2 {v0 v1 : V} : (F_Pager2 v0 v1).lookup ("field" : Str) = none := by kernel_rfl
theorem no_Pager_set_field {v0 v1 v2 : V} : (F_Pager v0 v1 v2).lookup ("set_field" : Str) = none := by kernel_rfl
theorem ni_Pager_set_field_1 {v0 : V} : (F_Pager1 v0).lookup ("set_field" : Str) = none := by kernel_rfl
theorem ni_Pager_set_field_2 {v0 v1 : V} : (F_Pager2 v0 v1).lookup ("set_field" : Str) = none := by kernel_rfl
theorem no_Pager_allocate {v0 v1 v2 : V} : (F_Pager v0 v1 v2).lookup ("allocate" : Str) = none := by kernel_rfl
theorem ni_Pager_allocate_1 {v0 : V} : (F_Pager1 v0).lookup ("allocate" : Str) = none := by kernel_rfl
theorem ni_Pager_allocate_2 {v0 v1 : V} : (F_Pager2 v0 v1).lookup ("allocate" : Str) = none := by kernel_rfl
theorem no_Pager_release {v0 v1 v2 : V} : (F_Pager v0 v1 v2).lookup ("release" : Str) = none := by kernel_rfl
theorem ni_Pager_release_1 {v0 : V} : (F_Pager1 v0).lookup ("release" : Str) = none := by kernel_rfl
theorem ni_Pager_release_2 {v0 v1 : V} : (F_Pager2 v0 v1).lookup ("release" : Str) = none := by kernel_rfl
theorem no_Pager_commit {v0 v1 v2 : V} : (F_Pager v0 v1 v2).lookup ("commit" : Str) = none := by kernel_rfl
theorem ni_Pager_commit_1 {v0 : V} : (F_Pager1 v0).lookup ("commit" : Str) = none := by kernel_rfl
theorem ni_Pager_commit_2 {v0 v1 : V} : (F_Pager2 v0 v1).lookup ("commit" : Str) = none := by kernel_rfl
theorem no_Pager_checkpoint {v0 v1 v2 : V} : (F_Pager v0 v1 v2).lookup ("checkpoint" : Str) = none := by kernel_rfl
theorem ni_Pager_checkpoint_1 {v0 : V} : (F_Pager1 v0).lookup ("checkpoint" : Str) = none := by kernel_rfl
theorem ni_Pager_checkpoint_2 {v0 v1 : V} : (F_Pager2 v0 v1).lookup ("checkpoint" : Str) = none := by kernel_rfl
theorem no_Pager_rollback {v0 v1 v2 : V} : (F_Pager v0 v1 v2).lookup ("rollback" : Str) = none := by kernel_rfl
theorem ni_Pager_rollback_1 {v0 : V} : (F_Pager1 v0).lookup ("rollback" : Str) = none := by kernel_rfl
theorem ni_Pager_rollback_2 {v0 v1 : V} : (F_Pager2 v0 v1).lookup ("rollback" : Str) = none := by kernel_rfl
local macro_rules | `(tactic| walk_at "lk") => `(tactic| with_reducible first | exact lk_Device_pages | exact lk_Device_page_writes | exact li_Device_pages_1 | exact lk_Device_durable_log | exact li_Device_pages_2 | exact li_Device_page_writes_2 | exact lk_Device_log_steps | exact li_Device_pages_3 | exact li_Device_page_writes_3 | exact li_Device_durable_log_3 | exact lk_Device_done | exact li_Device_pages_4 | exact li_Device_page_writes_4 | exact li_Device_durable_log_4 | exact li_Device_log_steps_4 | exact lk_Device_most | exact li_Device_pages_5 | exact li_Device_page_writes_5 | exact li_Device_durable_log_5 | exact li_Device_log_steps_5 | exact li_Device_done_5 | exact lk_Pager_device | exact lk_Pager_committed | exact li_Pager_device_1 | exact lk_Pager_dirty | exact li_Pager_device_2 | exact li_Pager_committed_2)
local macro_rules | `(tactic| walk_at "pt") => `(tactic| with_reducible first | exact pt_Device_pages | exact pi_Device_pages | exact pt_Device_page_writes | exact pi_Device_page_writes | exact pt_Device_durable_log | exact pi_Device_durable_log | exact pt_Device_log_steps | exact pi_Device_log_steps | exact pt_Device_done | exact pi_Device_done | exact pt_Device_most | exact pi_Device_most | exact pt_Pager_device | exact pi_Pager_device | exact pt_Pager_committed | exact pi_Pager_committed | exact pt_Pager_dirty | exact pi_Pager_dirty)
local macro_rules | `(tactic| walk_at "no") => `(tactic| with_reducible first | exact no_Device_step | exact ni_Device_step_1 | exact ni_Device_step_2 | exact ni_Device_step_3 | exact ni_Device_step_4 | exact ni_Device_step_5 | exact no_Device_write_page | exact ni_Device_write_page_1 | exact ni_Device_write_page_2 | exact ni_Device_write_page_3 | exact ni_Device_write_page_4 | exact ni_Device_write_page_5 | exact no_Device_sync_pages | exact ni_Device_sync_pages_1 | exact ni_Device_sync_pages_2 | exact ni_Device_sync_pages_3 | exact ni_Device_sync_pages_4 | exact ni_Device_sync_pages_5 | exact no_Device_append | exact ni_Device_append_1 | exact ni_Device_append_2 | exact ni_Device_append_3 | exact ni_Device_append_4 | exact ni_Device_append_5 | exact no_Device_clear | exact ni_Device_clear_1 | exact ni_Device_clear_2 | exact ni_Device_clear_3 | exact ni_Device_clear_4 | exact ni_Device_clear_5 | exact no_Device_sync_log | exact ni_Device_sync_log_1 | exact ni_Device_sync_log_2 | exact ni_Device_sync_log_3 | exact ni_Device_sync_log_4 | exact ni_Device_sync_log_5 | exact no_Device_durable_page | exact ni_Device_durable_page_1 | exact ni_Device_durable_page_2 | exact ni_Device_durable_page_3 | exact ni_Device_durable_page_4 | exact ni_Device_durable_page_5 | exact no_Device_page | exact ni_Device_page_1 | exact ni_Device_page_2 | exact ni_Device_page_3 | exact ni_Device_page_4 | exact ni_Device_page_5 | exact no_Device_log | exact ni_Device_log_1 | exact ni_Device_log_2 | exact ni_Device_log_3 | exact ni_Device_log_4 | exact ni_Device_log_5 | exact no_Device_limit | exact ni_Device_limit_1 | exact ni_Device_limit_2 | exact ni_Device_limit_3 | exact ni_Device_limit_4 | exact ni_Device_limit_5 | exact no_Device_crash | exact ni_Device_crash_1 | exact ni_Device_crash_2 | exact ni_Device_crash_3 | exact ni_Device_crash_4 | exact ni_Device_crash_5 | exact no_Device_steps | exact ni_Device_steps_1 | exact ni_Device_steps_2 | exact ni_Device_steps_3 | exact ni_Device_steps_4 | exact ni_Device_steps_5 | exact no_Device_pending | exact ni_Device_pending_1 | exact ni_Device_pending_2 | exact ni_Device_pending_3 | exact ni_Device_pending_4 | exact ni_Device_pending_5 | exact no_Pager_count_head | exact ni_Pager_count_head_1 | exact ni_Pager_count_head_2 | exact no_Pager_read | exact ni_Pager_read_1 | exact ni_Pager_read_2 | exact no_Pager_write | exact ni_Pager_write_1 | exact ni_Pager_write_2 | exact no_Pager_field | exact ni_Pager_field_1 | exact ni_Pager_field_2 | exact no_Pager_set_field | exact ni_Pager_set_field_1 | exact ni_Pager_set_field_2 | exact no_Pager_allocate | exact ni_Pager_allocate_1 | exact ni_Pager_allocate_2 | exact no_Pager_release | exact ni_Pager_release_1 | exact ni_Pager_release_2 | exact no_Pager_commit | exact ni_Pager_commit_1 | exact ni_Pager_commit_2 | exact no_Pager_checkpoint | exact ni_Pager_checkpoint_1 | exact ni_Pager_checkpoint_2 | exact no_Pager_rollback | exact ni_Pager_rollback_1 | exact ni_Pager_rollback_2 | exact rfl)
local macro_rules | `(tactic| walk_at "ln") => `(tactic| first | (with_reducible first | exact ln_Device_1 | exact ln_Device_2 | exact ln_Device_3 | exact ln_Device_4 | exact ln_Device_5 | exact ln_Device_6 | exact ln_Pager_1 | exact ln_Pager_2 | exact ln_Pager_3) | (show 0 < 1000; decide))
/-- what the top has left -/
structure Txt (K : PySem.W.Frag) (mg : Str → Option Value) (c : Cl) : Prop where
  f__wall : ∃ f fd, Fun K "_wall" "_wall" s__wall f fd ∧ mg "_wall" = some (.ref f)
  f_Device___init__ : ∃ f fd, Fun K "__init__" "Device.__init__" s_Device___init__ f fd ∧ PySem.W.findIn K (.ref c.Device) "__init__" = some (some (.ref f)) ∧ PySem.W.isFn K (.ref f) = true
  f_Device_step : ∃ f fd, Fun K "step" "Device.step" s_Device_step f fd ∧ PySem.W.findIn K (.ref c.Device) "step" = some (some (.ref f)) ∧ PySem.W.isFn K (.ref f) = true
  f_Device_write_page : ∃ f fd, Fun K "write_page" "Device.write_page" s_Device_write_page f fd ∧ PySem.W.findIn K (.ref c.Device) "write_page" = some (some (.ref f)) ∧ PySem.W.isFn K (.ref f) = true
  f_Device_sync_pages : ∃ f fd, Fun K "sync_pages" "Device.sync_pages" s_Device_sync_pages f fd ∧ PySem.W.findIn K (.ref c.Device) "sync_pages" = some (some (.ref f)) ∧ PySem.W.isFn K (.ref f) = true
  f_Device_append : ∃ f fd, Fun K "append" "Device.append" s_Device_append f fd ∧ PySem.W.findIn K (.ref c.Device) "append" = some (some (.ref f)) ∧ PySem.W.isFn K (.ref f) = true
  f_Device_clear : ∃ f fd, Fun K "clear" "Device.clear" s_Device_clear f fd ∧ PySem.W.findIn K (.ref c.Device) "clear" = some (some (.ref f)) ∧ PySem.W.isFn K (.ref f) = true
  f_Device_sync_log : ∃ f fd, Fun K "sync_log" "Device.sync_log" s_Device_sync_log f fd ∧ PySem.W.findIn K (.ref c.Device) "sync_log" = some (some (.ref f)) ∧ PySem.W.isFn K (.ref f) = true
  f_Device_durable_page : ∃ f fd, Fun K "durable_page" "Device.durable_page" s_Device_durable_page f fd ∧ PySem.W.findIn K (.ref c.Device) "durable_page" = some (some (.ref f)) ∧ PySem.W.isFn K (.ref f) = true
  f_Device_page : ∃ f fd, Fun K "page" "Device.page" s_Device_page f fd ∧ PySem.W.findIn K (.ref c.Device) "page" = some (some (.ref f)) ∧ PySem.W.isFn K (.ref f) = true
  f_Device_log : ∃ f fd, Fun K "log" "Device.log" s_Device_log f fd ∧ PySem.W.findIn K (.ref c.Device) "log" = some (some (.ref f)) ∧ PySem.W.isFn K (.ref f) = true
  f_Device_limit : ∃ f fd, Fun K "limit" "Device.limit" s_Device_limit f fd ∧ PySem.W.findIn K (.ref c.Device) "limit" = some (some (.ref f)) ∧ PySem.W.isFn K (.ref f) = true
  f_Device_crash : ∃ f fd, Fun K "crash" "Device.crash" s_Device_crash f fd ∧ PySem.W.findIn K (.ref c.Device) "crash" = some (some (.ref f)) ∧ PySem.W.isFn K (.ref f) = true
  f_Device_steps : ∃ f fd, Fun K "steps" "Device.steps" s_Device_steps f fd ∧ PySem.W.findIn K (.ref c.Device) "steps" = some (some (.ref f)) ∧ PySem.W.isFn K (.ref f) = true
  f_Device_pending : ∃ f fd, Fun K "pending" "Device.pending" s_Device_pending f fd ∧ PySem.W.findIn K (.ref c.Device) "pending" = some (some (.ref f)) ∧ PySem.W.isFn K (.ref f) = true
  f_write_number : ∃ f fd, Fun K "write_number" "write_number" s_write_number f fd ∧ mg "write_number" = some (.ref f)
  f_read_number : ∃ f fd, Fun K "read_number" "read_number" s_read_number f fd ∧ mg "read_number" = some (.ref f)
  f_write_group : ∃ f fd, Fun K "write_group" "write_group" s_write_group f fd ∧ mg "write_group" = some (.ref f)
  f_read_groups : ∃ f fd, Fun K "read_groups" "read_groups" s_read_groups f fd ∧ mg "read_groups" = some (.ref f)
  f_Pager___init__ : ∃ f fd, Fun K "__init__" "Pager.__init__" s_Pager___init__ f fd ∧ PySem.W.findIn K (.ref c.Pager) "__init__" = some (some (.ref f)) ∧ PySem.W.isFn K (.ref f) = true
  f_Pager_count_head : ∃ f fd, Fun K "count_head" "Pager.count_head" s_Pager_count_head f fd ∧ PySem.W.findIn K (.ref c.Pager) "count_head" = some (some (.ref f)) ∧ PySem.W.isFn K (.ref f) = true
  f_Pager_read : ∃ f fd, Fun K "read" "Pager.read" s_Pager_read f fd ∧ PySem.W.findIn K (.ref c.Pager) "read" = some (some (.ref f)) ∧ PySem.W.isFn K (.ref f) = true
  f_Pager_write : ∃ f fd, Fun K "write" "Pager.write" s_Pager_write f fd ∧ PySem.W.findIn K (.ref c.Pager) "write" = some (some (.ref f)) ∧ PySem.W.isFn K (.ref f) = true
  f_Pager_field : ∃ f fd, Fun K "field" "Pager.field" s_Pager_field f fd ∧ PySem.W.findIn K (.ref c.Pager) "field" = some (some (.ref f)) ∧ PySem.W.isFn K (.ref f) = true
  f_Pager_set_field : ∃ f fd, Fun K "set_field" "Pager.set_field" s_Pager_set_field f fd ∧ PySem.W.findIn K (.ref c.Pager) "set_field" = some (some (.ref f)) ∧ PySem.W.isFn K (.ref f) = true
  f_Pager_allocate : ∃ f fd, Fun K "allocate" "Pager.allocate" s_Pager_allocate f fd ∧ PySem.W.findIn K (.ref c.Pager) "allocate" = some (some (.ref f)) ∧ PySem.W.isFn K (.ref f) = true
  f_Pager_release : ∃ f fd, Fun K "release" "Pager.release" s_Pager_release f fd ∧ PySem.W.findIn K (.ref c.Pager) "release" = some (some (.ref f)) ∧ PySem.W.isFn K (.ref f) = true
  f_Pager_commit : ∃ f fd, Fun K "commit" "Pager.commit" s_Pager_commit f fd ∧ PySem.W.findIn K (.ref c.Pager) "commit" = some (some (.ref f)) ∧ PySem.W.isFn K (.ref f) = true
  f_Pager_checkpoint : ∃ f fd, Fun K "checkpoint" "Pager.checkpoint" s_Pager_checkpoint f fd ∧ PySem.W.findIn K (.ref c.Pager) "checkpoint" = some (some (.ref f)) ∧ PySem.W.isFn K (.ref f) = true
  f_Pager_rollback : ∃ f fd, Fun K "rollback" "Pager.rollback" s_Pager_rollback f fd ∧ PySem.W.findIn K (.ref c.Pager) "rollback" = some (some (.ref f)) ∧ PySem.W.isFn K (.ref f) = true
  f__law_draw : ∃ f fd, Fun K "_law_draw" "_law_draw" s__law_draw f fd ∧ mg "_law_draw" = some (.ref f)
  f__law_change : ∃ f fd, Fun K "_law_change" "_law_change" s__law_change f fd ∧ mg "_law_change" = some (.ref f)
  f__law_shown : ∃ f fd, Fun K "_law_shown" "_law_shown" s__law_shown f fd ∧ mg "_law_shown" = some (.ref f)
  f__law_crash : ∃ f fd, Fun K "_law_crash" "_law_crash" s__law_crash f fd ∧ mg "_law_crash" = some (.ref f)
  f__law_opened : ∃ f fd, Fun K "_law_opened" "_law_opened" s__law_opened f fd ∧ mg "_law_opened" = some (.ref f)
  f__law_group_holds : ∃ f fd, Fun K "_law_group_holds" "_law_group_holds" s__law_group_holds f fd ∧ mg "_law_group_holds" = some (.ref f)
  f__law_round : ∃ f fd, Fun K "_law_round" "_law_round" s__law_round f fd ∧ mg "_law_round" = some (.ref f)
  f_law : ∃ f fd, Fun K "law" "law" s_law f fd ∧ mg "law" = some (.ref f)
  m_PAGE_SIZE : ∃ t, mg "PAGE_SIZE" = some (.int 256 t)
  m_HALF : ∃ t, mg "HALF" = some (.int 128 t)
  m_NUMBER_SIZE : ∃ t, mg "NUMBER_SIZE" = some (.int 4 t)
  m_FIELD_SIZE : ∃ t, mg "FIELD_SIZE" = some (.int 4 t)
  m_PAGES : ∃ t, mg "PAGES" = some (.int 6 t)
  z_ValueError : mg "ValueError" = none
  z_all : mg "all" = none
  z_dict : mg "dict" = none
  z_int : mg "int" = none
  z_len : mg "len" = none
  z_list : mg "list" = none
  z_min : mg "min" = none
  z_range : mg "range" = none
  z_reversed : mg "reversed" = none
  z_sorted : mg "sorted" = none
  ec_PowerCut : ExcC K c.PowerCut
  ex_VaultError : ExT K mg "VaultError" c.VaultError
  ex_PowerCut : ExT K mg "PowerCut" c.PowerCut
  cl_Device : Cls K c.Device
  mk_Device : PySem.W.makesIn K c.Device = true ∧ PySem.W.keepIn K (.ref c.Device) = true
  mg_Device : mg "Device" = some (.ref c.Device)
  n_Device_pages : NoAttr K c.Device "pages"
  n_Device_page_writes : NoAttr K c.Device "page_writes"
  n_Device_durable_log : NoAttr K c.Device "durable_log"
  n_Device_log_steps : NoAttr K c.Device "log_steps"
  n_Device_done : NoAttr K c.Device "done"
  n_Device_most : NoAttr K c.Device "most"
  cl_Pager : Cls K c.Pager
  mk_Pager : PySem.W.makesIn K c.Pager = true ∧ PySem.W.keepIn K (.ref c.Pager) = true
  mg_Pager : mg "Pager" = some (.ref c.Pager)
  n_Pager_device : NoAttr K c.Pager "device"
  n_Pager_committed : NoAttr K c.Pager "committed"
  n_Pager_dirty : NoAttr K c.Pager "dirty"
/-! ### the reading's steps -/
local macro_rules | `(tactic| walk_at "nf") => `(tactic| first | exact id | assumption | exact Ne.symm (by assumption) | exact ne_of (by assumption) (by assumption) (by intro z; cases z) | exact ne_of_none (by assumption) (by assumption) | exact Ne.symm (ne_of_none (by assumption) (by assumption)))
local macro_rules | `(tactic| walk_at "hp") => `(tactic| first | assumption | exact upd_same | (refine' Kp.get (by assumption) ?hpa ?hpn; (case hpa => walk_at "hp"); (case hpn => walk_at "nf")) | (refine' Kp.tup (by assumption) ?hpa; (case hpa => walk_at "hp")))
local macro_rules | `(tactic| walk_at "sq") => `(tactic| first | assumption | exact SqL.of (by assumption) | exact SqT.of (by assumption) | exact Sc.sq (by assumption) | (refine' SqL.of ?hps; (case hps => walk_at "hp")) | (refine' SqT.of ?hps; (case hps => walk_at "hp")))
local macro_rules | `(tactic| walk_at "rd1") => `(tactic| (first
  | ((with_reducible refine' x_var ?vv ?_); (case vv => exact rfl))
  | ((with_reducible refine' x_ixL ?h1 ?h2 ?_); (case h1 => walk_at "sq"); (case h2 => (first | exact rfl | assumption)))
  | ((with_reducible refine' x_setL ?h1 ?h2 ?_); (case h1 => walk_at "hp"); (case h2 => (first | exact rfl | assumption)))
  | ((with_reducible refine' x_ixT ?h1 ?h2 ?_); (case h1 => walk_at "sq"); (case h2 => (first | exact rfl | assumption)))
  | ((with_reducible refine' x_lenL ?h1 ?_); (case h1 => walk_at "sq"))
  | ((with_reducible refine' x_lenT ?h1 ?_); (case h1 => walk_at "sq"))
  | ((with_reducible refine' x_I ?h1 ?_); (case h1 => (first | exact .inr ⟨by decide, by decide⟩ | exact .inl ⟨by decide, by decide⟩ | omega | exact ⟨by decide, by decide, by decide⟩ | exact fdiv_ok (by omega) (by omega))))
  | ((with_reducible refine' x_rg1 ?h1 ?h2 ?_); (case h1 => omega); (case h2 => omega))
  | ((with_reducible refine' x_rg2 ?h1 ?_); (case h1 => omega))
  | ((with_reducible refine' x_ty ?h1 ?_); (case h1 => walk_at "hp"))
  | ((with_reducible refine' x_gt ?h1 ?h2 ?_); (case h1 => walk_at "sq"); (case h2 => exact rfl))
  | ((with_reducible refine' x_fld ?h1 ?h2 ?h3 ?h4 ?_); (case h1 => walk_at "hp"); (case h2 => assumption); (case h3 => assumption); (case h4 => walk_at "lk"))
  | ((with_reducible refine' x_sfl ?h1 ?h2 ?h3 ?h4 ?h5 ?_); (case h1 => walk_at "hp"); (case h2 => assumption); (case h3 => assumption); (case h4 => walk_at "ln"); (case h5 => walk_at "pt"))
  | ((with_reducible refine' x_augI ?h1 ?h2 ?h3 ?h4 ?_); (case h1 => walk_at "hp"); (case h2 => assumption); (case h3 => assumption); (case h4 => walk_at "lk"))
  | ((with_reducible refine' x_augP ?h1 ?h2 ?h3 ?_); (case h1 => walk_at "hp"); (case h2 => walk_at "ln"); (case h3 => walk_at "pt"))
  | ((with_reducible refine' x_mt ?h1 ?h2 ?_); (case h1 => walk_at "hp"); (case h2 => walk_at "no"))
  | ((with_reducible refine' x_dgS ?h1 ?h2 ?_); (case h1 => refine' Or.inl ?h3; walk_at "hp"); (case h2 => walk_at "rv"))
  | ((with_reducible refine' x_dpS ?h1 ?h2 ?h3 ?_); (case h1 => walk_at "hp"); (case h2 => walk_at "rp"); (case h3 => exact Nat.le_of_ble_eq_true rfl))
  | ((with_reducible refine' x_g2a ?h1 ?_); (case h1 => refine' Or.inl ?h3; walk_at "hp"))
  | ((with_reducible refine' x_g2b ?h1 ?_); (case h1 => refine' Or.inl ?h3; walk_at "hp"))
  | ((with_reducible refine' x_diI ?h1 ?_); (case h1 => refine' Or.inl ?h3; walk_at "hp"))
  | ((with_reducible refine' x_dnI ?h1 ?_); (case h1 => refine' Or.inl ?h3; walk_at "hp"))
  | ((with_reducible refine' x_rev ?h1 ?_); (case h1 => walk_at "sq"))
  | ((with_reducible refine' x_iL1 ?h1 ?_); (case h1 => walk_at "sq"))
  | ((with_reducible refine' x_iT1 ?h1 ?_); (case h1 => walk_at "sq"))
  | with_reducible first
  | refine x_seq ?_ | refine x_asg ?_ | refine x_ifS ?_ | refine x_tst ?_ | refine x_op ?_ | refine x_c ?_ | refine x_I0 ?_ | refine x_bl ?_
  | refine x_cb ?_ | refine x_cons ?_ | refine x_nil ?_ | refine x_ret ?_ | refine x_retN ?_ | refine x_drop ?_ | refine x_next ?_
  | refine x_eqI ?_ | refine x_neI ?_ | refine x_eqS ?_ | refine x_neS ?_ | refine x_eqB ?_ | refine x_neB ?_ | refine x_intI ?_ | refine x_intB ?_ | refine x_and ?_ | refine x_or ?_ | refine x_not ?_
  | refine x_andV ?_ | refine x_orV ?_ | refine x_notV ?_ | refine x_ifE ?_ | refine x_ch ?_ | refine x_tup ?_ | refine x_lst ?_ | refine x_callS ?_ | refine x_sub ?_ | refine x_un ?_ | refine x_neg ?_ | refine x_tB ?_ | refine x_tfld ?_ | refine x_tsf ?_ | refine x_aug ?_ | refine x_radd ?_ | refine x_rsub ?_ | refine x_tmt ?_ | refine x_mk ?_ | refine x_tdg ?_ | refine x_tdi ?_ | refine x_tdn ?_ | refine x_tg2 ?_ | refine x_tdp ?_ | refine x_irev ?_ | refine x_isNi ?_ | refine x_isNr ?_ | refine x_isNn ?_ | refine x_notNi ?_ | refine x_notNr ?_ | refine x_notNn ?_ | refine x_bm ?_ | refine x_bm0 ?_ | refine x_gc ?_ | refine x_g0 ?_ | refine x_and255 ?_ | refine x_ifNT ?_ | refine x_ifNF ?_ | refine x_yes ?_ | refine x_isiI ?_ | refine x_isiB ?_ | refine x_ifTT ?_ | refine x_ifFF ?_ | refine x_gn ?_ | refine x_for ?_ | refine x_lc ?_ | refine x_rng1 ?_ | refine x_rng2 ?_ | refine x_iL ?_ | refine x_iT ?_ | refine x_abs ?_ | refine x_max2 ?_ | refine x_min2 ?_ | refine x_sl ?_ | refine x_part ?_ | refine x_part1 ?_ | refine x_nopart ?_))
local macro_rules | `(tactic| walk_at "rd") => `(tactic| repeat walk_at "rd1")
local macro_rules | `(tactic| walk_at "cx") => `(tactic| dsimp only [cxOf, Cx.nox, Cx.wish, L2.start, List.map_cons, List.map_nil, List.length_cons, List.length_nil, List.reduceReplicate, List.cons_append, List.nil_append, Nat.reduceAdd, Nat.reduceSub])
/-! ### more steps -/
section
variable {K : PySem.W.Frag} {σ : L2.St} {H : Hp} {Q : VK} {D : Ends} {tc : TT} {tb : TS} {a : Addr}
theorem x_wh (Pv : Nat → L2.St → Hp → Prop) (h0 : ∃ m, Pv m σ H) (hs : ∀ m σ H, Pv m σ H → tc σ H fun b H1 => if b = true then ∃ N : L2.St → Hp → Prop, (∀ σ' H', N σ' H' → ∃ m', m' < m ∧ Pv m' σ' H') ∧ tb { nx := N, rt := D.rt, bk := D.nx, ct := N } σ H1 else D.nx σ H1) : tWhile tc tb D σ H :=
  ⟨Pv, h0, hs⟩
theorem x_augv {ti : TIp} {te : TE} {i : Nat} {x : V} (e : σ[i]? = some (some x)) (h : te σ H fun y H1 => ti x y H1 fun z H2 => D.nx (σ.set i (some z)) H2) : tAug i te ti D σ H := ⟨x, e, h⟩
theorem x_ipI {f : Int → Int → Int} {i j : Int} (h : Q (.int (f i j)) H) : ipI f (.int i) (.int j) H Q := ⟨i, j, rfl, rfl, h⟩
theorem x_isiR {T S : String} {b : Bool} (ht : TyX K H (.ref a) (.type T)) (hk : PySem.W.kitOne K (.type T) (.type S) = some b) (q : Q (.bl b) H) : rIsi K [.ref a, .ty S] H Q := ⟨_, _, _, _, b, rfl, .ty S, ht, hk, q⟩
theorem if_dtt {p A B : Prop} [Decidable p] (n : p) (h : A) : if decide p = true then A else B := by rw [if_pos (by simpa using n)]; exact h
theorem if_dff {p A B : Prop} [Decidable p] (n : ¬ p) (h : B) : if decide p = true then A else B := by rw [if_neg (by simpa using n)]; exact h
theorem x_cutN {D : Ends} {t u : TS} (h : t { D with nx := u D } σ H) : C8.tCut t u D σ H := ⟨u D, h, fun _ _ z => z⟩
end
/-- a comprehension whose list so far may tell of the heap: D the list's place -/
theorem wlcH {J : It} {G : Hp → Prop} {xs : List V} {g : TG} {tt : TT} {te : TE} {vs : List Nat} {σ : L2.St} {H0 : Hp} {Qd : Addr → Hp → Prop} (W : Wk J G xs) (F : Addr → Prop) (Pv : Addr → Nat → List V → Hp → Prop)
    (hF : ∀ b, F b → H0 b ≠ none) (hz : xs.length ≤ 100000) (hG : ∀ D i acc H', Pv D i acc H' → Kp F H0 H' → G H') (h0 : ∀ D, H0 D = none → Pv D 0 [] (upd H0 D (.lst []))) (hSt : ∀ D i acc H' H4, Kp (F1 D) H' H4 → Pv D i acc H' → Pv D i acc H4)
    (hs : ∀ D i x acc H' (R : V → Hp → Prop) (R0 : Hp → Prop), xs[i]? = some x → H0 D = none → H' D = some (.lst acc) → Pv D i acc H' → Kp F H0 H' → (∀ y H4, Kp F H' H4 → Pv D (i + 1) (acc ++ [y]) H4 → R y H4) → (∀ H4, Kp F H' H4 → Pv D (i + 1) acc H4 → R0 H4) →
      g x (wipe σ vs) H' fun σ2 H2 => wipe σ2 vs = wipe σ vs ∧ tt σ2 H2 fun b H3 => if b = true then te σ2 H3 R else R0 H3)
    (hd : ∀ D H' acc, H0 D = none → H' D = some (.lst acc) → Pv D xs.length acc H' → Kp F H0 H' → Qd D H') :
    ∀ D, H0 D = none → ∃ W : Nat → Nat → Hp → Prop, (∃ m, W 0 m (upd H0 D (.lst []))) ∧ ∀ i m H, W i m H →
      (J.stop i H ∧ Qd D H) ∨ (J.go i H ∧ ∃ Nx : Hp → Prop, (∀ H', Nx H' → ∃ m', m' < m ∧ W (i + 1) m' H') ∧ ∀ x H', J.yld i H x H' → g x (wipe σ vs) H' fun σ2 H2 => wipe σ2 vs = wipe σ vs ∧ tt σ2 H2 fun b H3 =>
        if b = true then te σ2 H3 fun y H4 => ∃ acc, H4 D = some (.lst acc) ∧ acc.length < sizeLine ∧ Nx (upd H4 D (.lst (acc ++ [y]))) else Nx H3) := by
  intro D hD
  have nFD : ¬ F D := fun z => hF D z hD
  refine ⟨fun i m H' => m = xs.length - i ∧ i ≤ xs.length ∧ ∃ acc, H' D = some (.lst acc) ∧ acc.length ≤ i ∧ Pv D i acc H' ∧ Kp F H0 H',
    ⟨_, rfl, Nat.zero_le _, [], upd_same, Nat.le_refl _, h0 D hD, (Kp.new hD).mono fun b z => z.elim⟩, ?_⟩
  rintro i m H ⟨rfl, hi, acc, hacc, hl, p, kp⟩
  by_cases hlt : i < xs.length
  · refine .inr ⟨W.go i H hlt (hG _ _ _ _ p kp), _, fun H' z => ⟨xs.length - (i + 1), by omega, z⟩, fun x H' y => ?_⟩
    obtain ⟨rfl, e⟩ := W.yld i H x H' hlt (hG _ _ _ _ p kp) y
    refine hs D i x acc _ _ _ e hD hacc p kp (fun y H4 k4 p4 => ?_) (fun H4 k4 p4 => ?_)
    · have h4 := k4.get hacc nFD
      refine ⟨acc, h4, Nat.lt_of_le_of_lt (Nat.le_trans hl (Nat.le_trans hi hz)) (by decide), rfl, hlt, acc ++ [y], upd_same, by rw [List.length_append, List.length_singleton]; omega, hSt D _ _ _ _ (Kp.put h4 id) p4, ?_⟩
      intro b o hb n
      rw [upd_ne (ne_of_none hb hD)]
      exact k4 b o (kp b o hb n) n
    · exact ⟨rfl, hlt, acc, k4.get hacc nFD, by omega, p4, fun b o hb n => k4 b o (kp b o hb n) n⟩
  · obtain rfl : i = xs.length := by omega
    exact .inl ⟨W.stop H (hG _ _ _ _ p kp), hd D H acc hD hacc p kp⟩
theorem pgt {α β : Type} {R : α → β → Prop} : ∀ {l : List α} {m : List β} {i : Nat} {x : α}, Paired R l m → l[i]? = some x → ∃ y, m[i]? = some y ∧ R x y
  | _, _, 0, _, .cons r _, e => by simp at e; subst e; exact ⟨_, rfl, r⟩
  | _, _, i + 1, _, .cons r t, e => by rw [List.getElem?_cons_succ] at e ⊢; exact pgt t e
  | _, _, _, _, .nil, e => by simp at e
theorem pgetr {α β : Type} {R : α → β → Prop} {l : List α} {m : List β} {i : Nat} {y : β} (h : Paired R l m) (e : m[i]? = some y) : ∃ x, l[i]? = some x ∧ R x y := by
  have hi : i < l.length := by rw [h.length]; exact (List.getElem?_eq_some_iff.mp e).1
  obtain ⟨z, ez, r⟩ := pgt h (List.getElem?_eq_getElem hi)
  rw [e] at ez; cases ez
  exact ⟨_, List.getElem?_eq_getElem hi, r⟩
/-! ### pairs of numbers and pages, groups of them, lists of groups -/
def PAt (O : Addr → Prop) (H : Hp) (v : V) (q : Int × List Int) : Prop := ∃ t l, v = .ref t ∧ H t = some (.tup [.int q.1, .ref l]) ∧ H l = some (.lst (q.2.map V.int)) ∧ O l
def GAt (O : Addr → Prop) (H : Hp) (v : V) (g : List (Int × List Int)) : Prop := ∃ a ws, v = .ref a ∧ H a = some (.lst ws) ∧ O a ∧ Paired (PAt O H) ws g
def GsAt (O : Addr → Prop) (H : Hp) (a : Addr) (gs : List (List (Int × List Int))) : Prop := ∃ vs, H a = some (.lst vs) ∧ O a ∧ Paired (GAt O H) vs gs
section
variable {O O' F : Addr → Prop} {H H' : Hp} {v : V} {q : Int × List Int} {g : List (Int × List Int)} {gs : List (List (Int × List Int))} {a : Addr}
theorem PAt.kp (s : Kp F H H') (n : ∀ b o, H b = some o → O b → ¬ F b) (h : PAt O H v q) : PAt O H' v q := by
  obtain ⟨t, l, e, ht, hl, o⟩ := h
  exact ⟨t, l, e, s.tup ht, s.get hl (n _ _ hl o), o⟩
theorem GAt.kp (s : Kp F H H') (n : ∀ b o, H b = some o → O b → ¬ F b) (h : GAt O H v g) : GAt O H' v g := by
  obtain ⟨a, ws, e, ha, o, p⟩ := h
  exact ⟨a, ws, e, s.get ha (n _ _ ha o), o, p.mono fun _ _ r => r.kp s n⟩
theorem GsAt.kp (s : Kp F H H') (n : ∀ b o, H b = some o → O b → ¬ F b) (h : GsAt O H a gs) : GsAt O H' a gs := by
  obtain ⟨vs, ha, o, p⟩ := h
  exact ⟨vs, s.get ha (n _ _ ha o), o, p.mono fun _ _ r => r.kp s n⟩
theorem PAt.own (n : ∀ b, (∃ o, H b = some o) → O b → O' b) (h : PAt O H v q) : PAt O' H v q := by
  obtain ⟨t, l, e, ht, hl, o⟩ := h
  exact ⟨t, l, e, ht, hl, n _ ⟨_, hl⟩ o⟩
theorem GAt.own (n : ∀ b, (∃ o, H b = some o) → O b → O' b) (h : GAt O H v g) : GAt O' H v g := by
  obtain ⟨a, ws, e, ha, o, p⟩ := h
  exact ⟨a, ws, e, ha, n _ ⟨_, ha⟩ o, p.mono fun _ _ r => r.own n⟩
def pD (q : Int × List Int) : PyData := .tuple [.int q.1, .list (q.2.map PyData.int)]
def gD (g : List (Int × List Int)) : PyData := .list (g.map pD)
def gsD (gs : List (List (Int × List Int))) : PyData := .list (gs.map gD)
theorem dp_all {K : PySem.W.Frag} {α : Type} {R : V → α → Prop} {f : α → PyData} (hf : ∀ v x, R v x → Dp K H v (f x)) : ∀ {vs : List V} {xs : List α}, Paired R vs xs → DpAll K H vs (xs.map f)
  | _, _, .nil => .nil
  | _, _, .cons r t => .cons (hf _ _ r) (dp_all hf t)
theorem PAt.dp {K : PySem.W.Frag} (h : PAt O H v q) : Dp K H v (pD q) := by
  obtain ⟨t, l, rfl, ht, hl, o⟩ := h
  exact .tup (SqT.of ht) (.cons (.int _) (.cons (.lst (SqL.of hl) (dp_ints _)) .nil))
theorem GAt.dp {K : PySem.W.Frag} (h : GAt O H v g) : Dp K H v (gD g) := by
  obtain ⟨a, ws, rfl, ha, o, p⟩ := h
  exact .lst (SqL.of ha) (dp_all (fun _ _ r => r.dp) p)
theorem GsAt.dp {K : PySem.W.Frag} (h : GsAt O H a gs) : Dp K H (.ref a) (gsD gs) := by
  obtain ⟨vs, ha, o, p⟩ := h
  exact .lst (SqL.of ha) (dp_all (fun _ _ r => r.dp) p)
theorem pD_sh (q : Int × List Int) : Sh 2 (pD q) := Sh.tuple fun d hd => by
  rcases List.mem_cons.mp hd with h | h
  · rw [h]; exact ⟨(Sh.int _).1, Nat.le_trans (Sh.int _).2.1 (by decide), (Sh.int _).2.2⟩
  · rw [List.mem_singleton.mp h]; exact Sh.list (sh_ints _)
theorem gD_sh (g : List (Int × List Int)) : Sh 3 (gD g) := Sh.list fun d hd => by
  obtain ⟨q, _, rfl⟩ := List.mem_map.mp hd
  exact pD_sh q
theorem gsD_sh (gs : List (List (Int × List Int))) : Sh 4 (gsD gs) := Sh.list fun d hd => by
  obtain ⟨q, _, rfl⟩ := List.mem_map.mp hd
  exact gD_sh q
theorem eqv_refl {d : PyData} (h : nb d = true) : PyData.eqv d d = true := (eqv_nb d d h h).mpr rfl
end
section
variable {X : Cx} {o lo hi : Expr} {to tl tu : TE} {p2 pos : Pos}
/-- xs[a:c] = ys of another list -/
def rSlS (v o x y : V) (H : Hp) (R : Hp → Prop) : Prop := ∃ (l b : Addr) (xs ys : List V) (a c : Int), v = .ref b ∧ o = .ref l ∧ x = .int a ∧ y = .int c ∧ H l = some (.lst xs) ∧ H b = some (.lst ys) ∧ l ≠ b ∧ 0 ≤ a ∧ a ≤ c ∧ c ≤ xs.length ∧ xs.length + ys.length ≤ sizeLine ∧ R (upd H l (.lst (xs.take a.toNat ++ ys ++ xs.drop c.toNat)))
def gSlS (to tl tu : TE) : TG := fun v σ H Q => to σ H fun o H1 => tl σ H1 fun x H2 => tu σ H2 fun y H3 => rSlS v o x y H3 (Q σ)
theorem pg_slS (ho : PE X o to) (hl : PE X lo tl) (hu : PE X hi tu) : PG X (.Subscript o (.Slice (some lo) (some hi) none p2) pos) (gSlS to tl tu) := by
  have ha : ∀ v, assign (.Subscript o (.Slice (some lo) (some hi) none p2) pos) X.env v = (do
      let ov ← holding [v] (eval o X.env)
      let iv ← holding [v, ov] (eval (.Slice (some lo) (some hi) none p2) X.env)
      standAt pos
      holding [v, ov, iv] (setItem ov iv v)
      release [iv, v, ov] []) := fun _ => rfl
  refine ⟨fun pins s σ H v u Q I r h => ?_⟩
  rw [ha]
  refine wpAny_bind (wpAny_holding (thn (ho.run pins s σ H _ I h) fun ov s1 ⟨x, H1, I1, r1, q1⟩ => ?_))
  refine wpAny_bind (wpAny_holding (wpAny_Slice ?_))
  rw [evalPart_some]
  refine thn (hl.run pins s1 σ H1 _ I1 q1) fun vl s2 ⟨y, H2, I2, r2, q2⟩ => ?_
  rw [evalPart_some]
  refine thn (hu.run pins s2 σ H2 _ I2 q2) fun vu s3 ⟨z, H3, I3, r3, q3⟩ => ?_
  rw [evalPart_none]
  refine wpAny_pure ?_
  obtain ⟨l, b, xs, ys, a, d, e1, e2, e3, e4, hl1, hb1, ne, h0, h1, h2, hz, q⟩ := q3
  subst e1; subst e2; subst e3; subst e4
  cases (show u = Value.ref _ from r)
  cases (show ov = Value.ref _ from r1)
  have I4 : Inv X pins σ H3 { s3 with heap := s3.heap.push { cls := .type "slice", data := .fields #[vl, vu, .none] } } := I3.kept (t' := s3.toks) fun b ob q => Heap.get?_push_of_some _ q
  refine wpAny_bind (wpAny_standAt (wpAny_bind (wpAny_holding (set_slice I4 hl1 hb1 ne (Heap.IsSliceOf.new ..) r2 r3 h0 h1 h2 hz fun s' I' => ?_))))
  exact wpAny_release ⟨σ, _, I', q⟩
theorem x_slS {H : Hp} {l b : Addr} {xs ys : List V} {a c : Int} {R : Hp → Prop} (h1 : H l = some (.lst xs)) (h2 : H b = some (.lst ys)) (n : l ≠ b) (h0 : 0 ≤ a) (h3 : a ≤ c) (h4 : c ≤ xs.length) (hz : xs.length + ys.length ≤ sizeLine)
    (q : ∀ H1, H1 l = some (.lst (xs.take a.toNat ++ ys ++ xs.drop c.toNat)) → Kp (F1 l) H H1 → R H1) : rSlS (.ref b) (.ref l) (.int a) (.int c) H R :=
  ⟨l, b, xs, ys, a, c, rfl, rfl, rfl, rfl, h1, h2, n, h0, h3, h4, hz, q _ upd_same (Kp.put h1 id)⟩
end
/-- sorted(d) of a dict of ints, dict(d), list.pop(i) -/
def rSrtD : List V → Hp → VK → Prop := fun xs H Q => ∃ (a : Addr) (kvs : List (Key × V)) (ks : List Int), xs = [.ref a] ∧ Rd H a (.dK kvs) ∧ kvs.map (·.1) = ks.map Sum.inl ∧ ks.length < 64 ∧ ∀ (ys : List Int) (p : Addr), ys.Perm ks → ys.Pairwise (· ≤ ·) → H p = none → Q (.ref p) (upd H p (.lst (ys.map V.int)))
theorem c_sortedDI {X : Cx} (hc : X.calm = true) : CallR X (.builtin "sorted") rSrtD := call_sortedDI hc
theorem x_srtD {H : Hp} {Q : VK} {a : Addr} {kvs : List (Key × V)} {ks : List Int} (h : H a = some (.dK kvs)) (e : kvs.map (·.1) = ks.map Sum.inl) (z : ks.length < 64) (q : ∀ (ys : List Int) (p : Addr) (H1 : Hp), ys.Perm ks → ys.Pairwise (· ≤ ·) → H p = none → Kp F0 H H1 → H1 p = some (.lst (ys.map V.int)) → Q (.ref p) H1) : rSrtD [.ref a] H Q :=
  ⟨a, kvs, ks, rfl, .inl h, e, z, fun ys p hy hs hp => q ys p _ hy hs hp (Kp.new hp) upd_same⟩
def rDictD : List V → Hp → VK → Prop := fun xs H Q => ∃ (a : Addr) (kvs : List (Key × V)), xs = [.ref a] ∧ Rd H a (.dK kvs) ∧ ∀ p, H p = none → Q (.ref p) (upd H p (.dK kvs))
theorem c_dictD {X : Cx} : CallR X (.type "dict") rDictD := call_dictD
theorem x_dictD {H : Hp} {Q : VK} {a : Addr} {kvs : List (Key × V)} (h : H a = some (.dK kvs)) (q : ∀ p H1, H p = none → Kp F0 H H1 → H1 p = some (.dK kvs) → Q (.ref p) H1) : rDictD [.ref a] H Q :=
  ⟨a, kvs, rfl, .inl h, fun p hp => q p _ hp (Kp.new hp) upd_same⟩
theorem if_so {α : Type} {x : α} {A B : Prop} (h : A) : if (some x).isSome = true then A else B := by simpa using h
theorem if_no {α : Type} {A B : Prop} (h : B) : if (none : Option α).isSome = true then A else B := by simpa using h
theorem x_gsl {to tl tu : TE} {v : V} {σ : L2.St} {H : Hp} {R : L2.St → Hp → Prop} (h : to σ H fun o H1 => tl σ H1 fun x H2 => tu σ H2 fun y H3 => rSlS v o x y H3 (R σ)) : gSlS to tl tu v σ H R := h
/-! ### numbers and points as bytes, in plain Lean -/
/-- the last w bytes of a number, most significant first -/
def wn : Nat → Int → List Int
  | 0, _ => []
  | w + 1, n => wn w (n / 256) ++ [n % 256]
def rn (l : List Int) : Int := l.foldl (fun a b => a * 256 + b) 0
def wp (p : List Int) : List Int := p.flatMap fun c => wn 2 (c + 32768)
def rp (l : List Int) (place : Nat) (d : Nat) : List Int := (List.range d).map fun k => rn ((l.drop (place + 2 * k)).take 2) - 32768
/-- a list of bytes -/
def Byt (l : List Int) : Prop := ∀ x ∈ l, 0 ≤ x ∧ x < 256
theorem wn_len : ∀ (w : Nat) (n : Int), (wn w n).length = w
  | 0, _ => rfl
  | w + 1, n => by show (wn w (n / 256) ++ [n % 256]).length = w + 1; rw [List.length_append, wn_len w]; rfl
theorem wn_byt : ∀ (w : Nat) (n : Int), Byt (wn w n)
  | 0, _, x, h => by cases h
  | w + 1, n, x, h => by
    rcases List.mem_append.mp (show x ∈ wn w (n / 256) ++ [n % 256] from h) with h | h
    · exact wn_byt w _ x h
    · rw [List.mem_singleton.mp h]; omega
theorem pow256 (k : Nat) : (0 : Int) < 256 ^ k := Int.pow_pos (by decide)
theorem wn_cons : ∀ (w : Nat) (n : Int), wn (w + 1) n = (n / 256 ^ w % 256) :: wn w n
  | 0, n => by show [] ++ [n % 256] = _; simp [wn]
  | w + 1, n => by
    show wn (w + 1) (n / 256) ++ [n % 256] = _
    rw [wn_cons w (n / 256)]
    show (n / 256 / 256 ^ w % 256) :: (wn w (n / 256) ++ [n % 256]) = (n / 256 ^ (w + 1) % 256) :: wn (w + 1) n
    rw [Int.ediv_ediv_of_nonneg (by decide), Int.mul_comm, ← Int.pow_succ]; rfl
theorem rn_app (l : List Int) (x : Int) : rn (l ++ [x]) = rn l * 256 + x := by unfold rn; rw [List.foldl_append]; rfl
theorem rn_wn : ∀ (w : Nat) (n : Int), 0 ≤ n → n < 256 ^ w → rn (wn w n) = n
  | 0, n, h0, h1 => by rw [Int.pow_zero] at h1; show (0 : Int) = n; omega
  | w + 1, n, h0, h1 => by
    show rn (wn w (n / 256) ++ [n % 256]) = n
    rw [Int.pow_succ] at h1
    rw [rn_app, rn_wn w (n / 256) (by omega) (by omega)]
    omega
theorem rn_nn {l : List Int} (h : Byt l) : 0 ≤ rn l := by
  have q : ∀ (l : List Int) (a : Int), 0 ≤ a → Byt l → 0 ≤ l.foldl (fun a b => a * 256 + b) a := by
    intro l
    induction l with
    | nil => intro a h _; exact h
    | cons x l ih =>
      intro a h0 h
      have := h x (by simp)
      exact ih _ (show 0 ≤ a * 256 + x by omega) fun y hy => h y (List.mem_cons_of_mem _ hy)
  exact q l 0 (by decide) h
theorem wn_get {w : Nat} {n : Int} {k : Nat} (h : k < w) : (wn w n)[k]? = some (n / 256 ^ (w - 1 - k) % 256) := by
  induction w generalizing n k with
  | zero => omega
  | succ w ih =>
    rw [wn_cons]
    cases k with
    | zero => simp
    | succ k =>
      rw [List.getElem?_cons_succ, ih (by omega)]
      congr 4; omega
theorem pow_256 (k : Nat) : (2 : Int) ^ (8 * k) = 256 ^ k := by rw [Int.pow_mul]; rfl
theorem wp_app (p : List Int) (c : Int) : wp (p ++ [c]) = wp p ++ wn 2 (c + 32768) := by unfold wp; rw [List.flatMap_append]; simp
theorem wp_len (p : List Int) : (wp p).length = 2 * p.length := by
  induction p with
  | nil => rfl
  | cons c p ih =>
    show (wn 2 (c + 32768) ++ wp p).length = 2 * (p.length + 1)
    rw [List.length_append, ih, wn_len]; omega
theorem wp_byt (p : List Int) : Byt (wp p) := by
  intro x h
  obtain ⟨c, _, hx⟩ := List.mem_flatMap.mp h
  exact wn_byt _ _ x hx
/-- coordinates in their range -/
def Crd (p : List Int) : Prop := ∀ x ∈ p, -32768 ≤ x ∧ x ≤ 32767
theorem wp_drop (p : List Int) : ∀ k : Nat, (wp p).drop (2 * k) = wp (p.drop k)
  | 0 => by simp
  | k + 1 => by
    cases p with
    | nil => simp [wp]
    | cons c p =>
      show (wn 2 (c + 32768) ++ wp p).drop (2 * (k + 1)) = wp (p.drop k)
      rw [← wp_drop p k, List.drop_append, wn_len]
      rw [List.drop_eq_nil_of_le (by rw [wn_len]; omega), List.nil_append]
      congr 1
theorem rp_wp {p : List Int} (h : Crd p) (a b : List Int) : rp (a ++ wp p ++ b) a.length p.length = p := by
  unfold rp
  apply List.ext_getElem
  · simp
  · intro k h1 h2
    simp only [List.getElem_map, List.getElem_range]
    have e : (a ++ wp p ++ b).drop (a.length + 2 * k) = wn 2 (p[k] + 32768) ++ (wp (p.drop (k + 1)) ++ b) := by
      rw [List.append_assoc, List.drop_append, List.drop_eq_nil_of_le (by omega), List.nil_append, Nat.add_sub_cancel_left, List.drop_append, wp_drop]
      rw [show 2 * k - (wp p).length = 0 by rw [wp_len]; omega, List.drop_zero, List.drop_eq_getElem_cons h2]
      show wn 2 (p[k] + 32768) ++ wp (p.drop (k + 1)) ++ b = _
      rw [List.append_assoc]
    have hc := h p[k] (by simp)
    rw [e, List.take_append_of_le_length (by rw [wn_len]; omega), List.take_of_length_le (Nat.le_of_eq (wn_len _ _)), rn_wn _ _ (by omega) (by omega)]
    omega
/-! ### groups, in plain Lean -/
def chunk (q : Int × List Int) : List Int := wn 4 q.1 ++ q.2
def wg (g : List (Int × List Int)) : List Int := wn 4 g.length ++ g.flatMap chunk
structure Good (g : List (Int × List Int)) : Prop where
  n : g.length ≤ 60
  q : ∀ q ∈ g, 0 ≤ q.1 ∧ q.1 < 256 ^ 4 ∧ q.2.length = 256
theorem chunk_len {q : Int × List Int} (h : q.2.length = 256) : (chunk q).length = 260 := by unfold chunk; rw [List.length_append, wn_len, h]
theorem fm_len {α : Type} {f : α → List Int} {n : Nat} : ∀ {g : List α}, (∀ q ∈ g, (f q).length = n) → (g.flatMap f).length = n * g.length
  | [], _ => rfl
  | q :: g, h => by
    rw [List.flatMap_cons, List.length_append, h q (by simp), fm_len (g := g) fun r hr => h r (List.mem_cons_of_mem _ hr), List.length_cons, Nat.mul_succ, Nat.add_comm]
theorem fm_drop {α : Type} {f : α → List Int} {n : Nat} : ∀ {g : List α} {k : Nat} {q : α}, (∀ q ∈ g, (f q).length = n) → g[k]? = some q → (g.flatMap f).drop (n * k) = f q ++ (g.drop (k + 1)).flatMap f
  | [], _, _, _, e => by simp at e
  | r :: g, 0, q, h, e => by
    simp only [List.getElem?_cons_zero, Option.some.injEq] at e
    subst e
    rw [Nat.mul_zero, List.drop_zero, List.flatMap_cons]; rfl
  | r :: g, k + 1, q, h, e => by
    rw [List.getElem?_cons_succ] at e
    rw [List.flatMap_cons, Nat.mul_succ, Nat.add_comm (n * k) n, ← List.drop_drop, List.drop_left' (h r (by simp)), fm_drop (g := g) (fun r hr => h r (List.mem_cons_of_mem _ hr)) e]; rfl
theorem wg_len {g : List (Int × List Int)} (h : Good g) : (wg g).length = 4 + 260 * g.length := by
  unfold wg
  rw [List.length_append, wn_len, fm_len fun q hq => chunk_len (h.q q hq).2.2]
/-- what is read at a group's beginning -/
theorem rd_count {A T ds : List Int} {g : List (Int × List Int)} (h : Good g) (e : ds = A ++ (wg g ++ T)) : rn ((ds.drop A.length).take 4) = g.length := by
  subst e
  rw [List.drop_left, wg, List.append_assoc, List.take_left' (wn_len 4 _)]
  exact rn_wn 4 _ (by omega) (by have := h.n; omega)
theorem rd_chunk {A T ds : List Int} {g : List (Int × List Int)} {k : Nat} {q : Int × List Int} (h : Good g) (e : ds = A ++ (wg g ++ T)) (hq : g[k]? = some q) :
    rn ((ds.drop (A.length + 4 + 260 * k)).take 4) = q.1 ∧ (ds.drop (A.length + 4 + 260 * k + 4)).take 256 = q.2 := by
  have hm := h.q q (List.mem_of_getElem? hq)
  have hd : ds.drop (A.length + 4 + 260 * k) = wn 4 q.1 ++ (q.2 ++ ((g.drop (k + 1)).flatMap chunk ++ T)) := by
    subst e
    rw [Nat.add_assoc, ← List.drop_drop, List.drop_left, wg, List.append_assoc, ← List.drop_drop, List.drop_left' (wn_len 4 _), List.drop_append_of_le_length, fm_drop (fun q hq => chunk_len (h.q q hq).2.2) hq]
    · unfold chunk; simp only [List.append_assoc]
    · rw [fm_len fun q hq => chunk_len (h.q q hq).2.2]
      have := (List.getElem?_eq_some_iff.mp hq).1
      omega
  constructor
  · rw [hd, List.take_left' (wn_len 4 _)]
    exact rn_wn 4 _ hm.1 hm.2.1
  · rw [← List.drop_drop, hd, List.drop_left' (wn_len 4 _), List.take_left' hm.2.2]
/-- the beginning of a group that is cut off -/
theorem rd_part {A ds : List Int} {g : List (Int × List Int)} {j : Nat} (h : Good g) (e : ds = A ++ (wg g).take j) (hj : 4 ≤ j) : rn ((ds.drop A.length).take 4) = g.length := by
  subst e
  rw [List.drop_left, List.take_take, Nat.min_eq_left hj, wg, List.take_left' (wn_len 4 _)]
  exact rn_wn 4 _ (by omega) (by have := h.n; omega)
theorem wn4 {n : Int} (h0 : 0 ≤ n) (h1 : n < 256 ^ 4) : [n / 2 ^ 24, n / 2 ^ 16 % 256, n / 2 ^ 8 % 256, n % 256] = wn 4 n := by
  have e : wn 4 n = [n / 256 / 256 / 256 % 256, n / 256 / 256 % 256, n / 256 % 256, n % 256] := rfl
  rw [e]
  simp only [List.cons.injEq, and_true]
  refine ⟨?_, ?_, ?_⟩ <;> omega
theorem takes {α : Type} {f : α → List Int} {l : List α} {i : Nat} {x : α} (e : l[i]? = some x) : (l.take (i + 1)).flatMap f = (l.take i).flatMap f ++ f x := by
  rw [List.take_succ, e, List.flatMap_append]; simp
/-- the groups' flat form at the i-th -/
theorem flat_at {gs : List (List (Int × List Int))} {i : Nat} {g : List (Int × List Int)} (T : List Int) (e : gs[i]? = some g) : gs.flatMap wg ++ T = (gs.take i).flatMap wg ++ (wg g ++ ((gs.drop (i + 1)).flatMap wg ++ T)) := by
  have hi := (List.getElem?_eq_some_iff.mp e).1
  have h2 : gs.drop i = g :: gs.drop (i + 1) := by
    rw [List.drop_eq_getElem_cons hi, (List.getElem?_eq_some_iff.mp e).2]
  conv => lhs; rw [← List.take_append_drop i gs, List.flatMap_append, h2, List.flatMap_cons]
  simp only [List.append_assoc]
/-! ### while an exception is handled: ends of lists and tuples -/
section
open PySem.Calls PyProof.Rows PyProof.V PySem.Spec HotX
variable {PG : Program} {wo : World} {A : Around} {EE : Value → Shared → Prop} {s : Shared}
theorem hot_kp {x1 : Addr} {h h' : Heap} (t : HotAt A x1 h) (k : ∀ o, h.get? x1 = some o → h'.get? x1 = some o) : HotAt A x1 h' := by
  obtain ⟨hh, o, vs, e, d, c⟩ := t
  exact ⟨hh, o, vs, k o e, d, c⟩
/-- a list's iterator at its end -/
theorem lend_hot {it l x1 : Addr} {i : Nat} {xs : Array Value} {R : Option Value → Shared → Prop} (hot : HotAt A x1 s.heap) (nx : x1 ≠ it) (li : s.heap.IsListIter it l i) (ll : s.heap.IsList l xs) (e : xs[i]? = none)
    (q : ∀ h', Heap.ExtBut it s.heap h' → R none { s with heap := h' }) : wpAny (model PG wo) A (pyNext (.ref it)) R EE s := by
  obtain ⟨o, ho, hc, hd⟩ := id li
  obtain ⟨ol, hol, _, nl, hdl⟩ := ll
  obtain ⟨hh, o1, vs1, h1, d1, c1⟩ := hot
  unfold pyNext
  apply wpAny_bind
  apply wpAny_attempt
  apply wpAny_callSpecial?_slot (name := Str.ofString "__next__") li.typeIs slot_listiter_next
  apply wpAny_call_entry slot_listiter_next li.typeIs entry_listiter_next ?_ (args_listiter_next _)
  show wpAny _ _ (field (.ref it) 0 >>= _) _ _ s
  apply wpAny_bind
  apply wpAny_field ho hd (x := .ref l) rfl
  rw [if_neg (by exact Bool.false_ne_true)]
  apply wpAny_bind
  apply wpAny_field ho hd (x := .int i 0) rfl
  apply wpAny_bind
  apply wpAny_seqItems hol hdl
  simp only [Int.toNat_natCast, e]
  apply wpAny_bind
  apply wpAny_rule
  apply wpAny_bind
  apply wpAny_setField ho hd (by simp)
  apply wpAny_bind
  simp only [newExc, newTuple]
  apply wpAny_bind
  refine wpAny_newObj_type ?_ (by size_fits)
  apply wpAny_bind (m := firstArgMember _ _)
  apply wpAny_of_eq (a := Value.none)
  · first | rfl | (simp only [firstArgMember]; rfl)
  refine wpAny_newObj_type ?_ (by size_fits)
  have U := ((Heap.SameBut.update s.heap it (Obj.mapFields (·.setIfInBounds 0 Value.none))).extBut.push { cls := .type "tuple", data := .seq #[] })
  have lt : ∀ {b o}, b ≠ it → s.heap.get? b = some o → b < _ := fun n e => Heap.lt_size (U _ _ n e)
  refine raiseNew_hot ⟨hh, o1, vs1, ?_, d1, c1⟩ (Nat.ne_of_lt (lt nx h1)) (Heap.get?_push_size _ rfl) rfl ?_ ?_
  · exact Heap.get?_push_of_some _ (U _ _ nx h1)
  · first | (simp; done) | (simp; omega) | (simp only [Array.size_append]; simp; omega)
  apply wpAny_bind
  refine wpAny_isInstance (b := true) ⟨_, Heap.get?_update_self _ (Heap.get?_push_size _ rfl) rfl, rfl⟩ isSubtype_stop ?_
  apply wpAny_pure
  refine q _ fun b o n e => ?_
  rw [Heap.get?_update_other _ _ (Nat.ne_of_gt (lt n e))]
  exact Heap.get?_push_of_some _ (U b o n e)
/-- a tuple's iterator at its end -/
theorem tend_hot {it l x1 : Addr} {i : Nat} {xs : Array Value} {R : Option Value → Shared → Prop} (hot : HotAt A x1 s.heap) (nx : x1 ≠ it) (li : s.heap.IsTupleIter it l i) (ll : s.heap.IsTuple l xs) (e : xs[i]? = none)
    (q : ∀ h', Heap.ExtBut it s.heap h' → R none { s with heap := h' }) : wpAny (model PG wo) A (pyNext (.ref it)) R EE s := by
  obtain ⟨o, ho, hc, hd⟩ := id li
  obtain ⟨ol, hol, _, nl, hdl⟩ := ll
  obtain ⟨hh, o1, vs1, h1, d1, c1⟩ := hot
  unfold pyNext
  apply wpAny_bind
  apply wpAny_attempt
  apply wpAny_callSpecial?_slot (name := Str.ofString "__next__") li.typeIs PySem.F.slot_tuple_iterator_next
  apply wpAny_call_entry PySem.F.slot_tuple_iterator_next li.typeIs PySem.F.entry_tuple_iterator_next ?_ (PySem.F.args_tuple_iterator_next_1 _)
  show wpAny _ _ (field (.ref it) 0 >>= _) _ _ s
  apply wpAny_bind
  apply wpAny_field ho hd (x := .ref l) rfl
  rw [if_neg (by exact Bool.false_ne_true)]
  apply wpAny_bind
  apply wpAny_field ho hd (x := .int i 0) rfl
  apply wpAny_bind
  apply wpAny_seqItems hol hdl
  simp only [Int.toNat_natCast, e]
  apply wpAny_bind
  apply wpAny_rule
  apply wpAny_bind
  apply wpAny_setField ho hd (by simp)
  apply wpAny_bind
  simp only [newExc, newTuple]
  apply wpAny_bind
  refine wpAny_newObj_type ?_ (by size_fits)
  apply wpAny_bind (m := firstArgMember _ _)
  apply wpAny_of_eq (a := Value.none)
  · first | rfl | (simp only [firstArgMember]; rfl)
  refine wpAny_newObj_type ?_ (by size_fits)
  have U := ((Heap.SameBut.update s.heap it (Obj.mapFields (·.setIfInBounds 0 Value.none))).extBut.push { cls := .type "tuple", data := .seq #[] })
  have lt : ∀ {b o}, b ≠ it → s.heap.get? b = some o → b < _ := fun n e => Heap.lt_size (U _ _ n e)
  refine raiseNew_hot ⟨hh, o1, vs1, ?_, d1, c1⟩ (Nat.ne_of_lt (lt nx h1)) (Heap.get?_push_size _ rfl) rfl ?_ ?_
  · exact Heap.get?_push_of_some _ (U _ _ nx h1)
  · first | (simp; done) | (simp; omega) | (simp only [Array.size_append]; simp; omega)
  apply wpAny_bind
  refine wpAny_isInstance (b := true) ⟨_, Heap.get?_update_self _ (Heap.get?_push_size _ rfl) rfl, rfl⟩ isSubtype_stop ?_
  apply wpAny_pure
  refine q _ fun b o n e => ?_
  rw [Heap.get?_update_other _ _ (Nat.ne_of_gt (lt n e))]
  exact Heap.get?_push_of_some _ (U b o n e)
theorem twalk_hot {I ax x1 : Addr} (xs : Array Value) (ne : ax ≠ I) (nx : x1 ≠ I) :
    Walks PG wo A I [I, ax, x1] [I] xs.size (fun i v => xs[i]? = some v) (fun i h => h.IsTupleIter I ax i ∧ h.IsTuple ax xs ∧ HotAt A x1 h) where
  sub := fun b hb => by rw [List.mem_singleton.mp hb]; exact List.mem_cons_self
  frame := fun i h h' st k => by
    refine ⟨st.1.at fun o e => k I ?_ o e, st.2.1.at fun o e => k ax ?_ o e, hot_kp st.2.2 fun o e => k x1 ?_ o e⟩
    all_goals simp
  item := fun i s R EE lt st k => by
    refine wpAny_pyNext_tuple_item st.1 st.2.1 (x := xs[i]) (by simp [lt]) fun h' it' sb => ?_
    refine k _ h' s.toks (by simp [lt]) ⟨it', st.2.1.extBut sb.extBut ne, hot_kp st.2.2 fun o e => sb.extBut x1 o nx e⟩ ?_
    exact fun b o nb e => sb.extBut b o (fun z => nb (by simp [z])) e
  done := fun s R EE st k => by
    refine tend_hot st.2.2 nx st.1 st.2.1 (by simp) fun h' eb => ?_
    exact k h' s.toks fun b o nb e => eb b o (fun z => nb (by simp [z])) e
  self := fun _ _ _ _ st k => wpAny_pyIter_tupleiter st.1 k
theorem min_hot {a b : Int} {t u : Tok} {x1 : Addr} {R : Value → Shared → Prop} (hot : HotAt A x1 s.heap)
    (q : ∀ h' tk, (∀ c o, s.heap.get? c = some o → h'.get? c = some o) → R (if b < a then .int b u else .int a t) { s with heap := h', toks := tk }) : wpAny (model PG wo) A (call (.builtin "min") [.int a t, .int b u]) R EE s := by
  have T : (s.heap.push { cls := .type "tuple", data := .seq #[Value.int a t, .int b u] }).IsTuple s.heap.objs.size #[Value.int a t, .int b u] := ⟨_, Heap.get?_push_size _ rfl, rfl, 0, rfl⟩
  have lx : x1 < s.heap.objs.size := by
    obtain ⟨_, o, vs, e, _⟩ := hot
    exact Heap.lt_size e
  refine call_min_two (wpAny_pyIter_tuple T ?_)
  have z1 : (s.heap.push { cls := .type "tuple", data := .seq #[Value.int a t, .int b u] }).objs.size = s.heap.objs.size + 1 := Heap.size_push ..
  have hot1 : HotAt A.in1 x1 s.heap := hot
  refine ⟨_, [_, s.heap.objs.size, x1], [_], 2, fun i v => #[Value.int a t, .int b u][i]? = some v, _, fun i j => decide ((if i = 0 then a else b) < (if j = 0 then a else b)), rfl,
    twalk_hot #[Value.int a t, .int b u] (by rw [z1]; exact Nat.ne_of_lt (Nat.lt_succ_self _)) (by rw [z1]; exact Nat.ne_of_lt (Nat.lt_succ_of_lt lx)), ⟨⟨_, Heap.get?_push_size _ rfl, rfl, rfl⟩, T.push _, hot_kp hot1 fun o e => Heap.get?_push_of_some _ (Heap.get?_push_of_some _ e)⟩, ?_, by decide, ?_, ?_⟩
  · intro c hc
    show c < ((s.heap.push _).push _).objs.size
    rw [Heap.size_push, z1]
    simp only [List.mem_cons, List.mem_nil_iff, or_false] at hc
    rcases hc with rfl | rfl | rfl
    · rw [z1]; exact Nat.lt_succ_self _
    · exact Nat.lt_succ_of_lt (Nat.lt_succ_self _)
    · exact Nat.lt_succ_of_lt (Nat.lt_succ_of_lt lx)
  · refine CmpOf.ints_lt (fun i => if i = 0 then a else b) fun i v e => ?_
    rcases i with _ | _ | i
    · exact ⟨t, by simpa using e.symm⟩
    · exact ⟨u, by simpa using e.symm⟩
    · simp at e
  · intro v h' tk hv hk
    have old : ∀ c o, s.heap.get? c = some o → h'.get? c = some o := fun c o e => by
      refine hk c o (fun m => ?_) (Heap.get?_push_of_some _ (Heap.get?_push_of_some _ e))
      have l := Heap.lt_size e
      rw [List.mem_singleton.mp m, z1] at l
      exact Nat.lt_irrefl _ (Nat.lt_of_succ_lt l)
    have ev : v = if b < a then Value.int b u else Value.int a t := by
      by_cases l : b < a
      · rw [if_pos l]; simpa [argBest, l] using hv.symm
      · rw [if_neg l]; simpa [argBest, l] using hv.symm
    rw [ev]
    exact q h' tk old
end
/-! ### while an exception is handled: loops over lists, comprehensions, min -/
section
open PySem.Calls PyProof.Rows PyProof.V PySem.Spec HotX L2H
theorem c_min2H {X : Cx} (hc : HotC X) : CallR X (.builtin "min") rMin2Q := by
  rintro pins s σ H xs us Q I r ⟨i, j, rfl, q⟩
  obtain ⟨x1, hot⟩ := hc.at I
  cases r with
  | cons r1 r =>
    cases r with
    | cons r2 r =>
      cases r
      obtain ⟨t, rfl⟩ := r1
      obtain ⟨u, rfl⟩ := r2
      refine min_hot hot fun h' tk k => ⟨_, H, I.kept k, ?_, q⟩
      by_cases l : j < i
      · rw [if_pos l, if_pos l]; exact ⟨u, rfl⟩
      · rw [if_neg l, if_neg l]; exact ⟨t, rfl⟩
theorem turn_lH {P : Program} {w : World} {K : PySem.W.Frag} {tg : Expr} (a it : Addr) : TurnH P w K tg (Itl K a) [it] it (fun i h => h.IsListIter it a i) where
  mem := List.mem_singleton_self it
  obj := fun i h li b hb => by
    rw [List.mem_singleton.mp hb]
    obtain ⟨o, e, _, d⟩ := li
    exact ⟨o, e, fun v z => by rw [d] at z; cases z⟩
  keep := fun i h h' li k => li.at (k it (List.mem_singleton_self it))
  item := by
    rintro X rfl rfl rfl hc i pins s σ H E I hf li ⟨xs, x, sq, ex⟩
    obtain ⟨us, rv, pl, _⟩ := I.list sq
    obtain ⟨u, eu, ru⟩ := rv.get ex
    obtain ⟨g0, g1, g2, g3, g4, g5⟩ := hf it (List.mem_singleton_self it)
    refine wpAny_pyNext_list_item li pl.isList (x := u) (by simpa using eu) fun h' li' sb => ?_
    obtain ⟨o, e, cl, d⟩ := id li'
    refine ⟨u, rfl, go_of (s := { s with heap := h' }) e cl d (by decide) ⟨x, H, ?_, ru, ⟨rfl, fun ys hy => ?_⟩, li', fun b hb => (hf b hb).1⟩⟩
    · exact I.turned (t' := s.toks) (fun b o nb z => (sb.2 b nb).trans z) g0 g1 g3 g4 g5
    · rw [I.list_inj hy sq]; exact ex
  done := by
    rintro X rfl rfl rfl hc i pins s σ H E I hf li ⟨xs, sq, lx⟩
    obtain ⟨us, rv, pl, _⟩ := I.list sq
    obtain ⟨g0, g1, g2, g3, g4, g5⟩ := hf it (List.mem_singleton_self it)
    obtain ⟨p, ⟨hh, vs, e1, c1⟩, hp⟩ := hc
    have lv := rv.length
    have pp := I.pin p (List.mem_append_left _ hp)
    have np : p.1 ≠ it := g5 p (List.mem_append_left _ hp)
    refine lend_hot ⟨hh, p.2, vs, pp.1, e1, c1⟩ np li pl.isList (by simp; omega) fun h' eb => ⟨rfl, ?_⟩
    exact I.turned (t' := s.toks) (fun b o nb z => eb b o nb z) g0 g1 g3 g4 g5
  self := fun _ _ _ _ _ li k => wpAny_pyIter_listiter li k
theorem pi_lH {X : Cx} {K : PySem.W.Frag} {tg l : Expr} {te : TE} (hK : X.K = K) (hl : PE X l te) : PIH X tg l (iList K te) := by
  subst hK
  refine ⟨fun pins s σ H R I h => thn (hl.run pins s σ H _ I h) ?_⟩
  rintro v s1 ⟨x, H1, I1, r1, a, rfl, ⟨xs, sq⟩, q⟩
  cases r1
  obtain ⟨us, _, pl, _⟩ := I1.list sq
  apply wpAny_pyIter_list pl.isList
  have I2 := I1.kept (t' := s1.toks) fun b o e => Heap.get?_push_of_some { cls := .type "list_iterator", data := .fields #[.ref a, .int (0 : Nat) 0] } e
  refine ⟨s1.heap.objs.size, [s1.heap.objs.size], _, _, H1, rfl, I2, turn_lH a _, ⟨_, Heap.get?_push_size _ rfl, rfl, rfl⟩, fun b hb => ?_, q⟩
  rw [List.mem_singleton.mp hb]
  exact I1.fpOk (Nat.le_refl _) (I1.hok.fresh (Nat.le_refl _))
end
/-! ### a list comprehension while an exception is handled -/
section
open PySem.Calls PyProof.Rows PyProof.V PySem.Spec HotX L2H
abbrev blkH (X : Cx) (s : Shared) (H : Hp) (scope : Scope) (ce : Env) (fp : List Addr) : Cx := { X.blk s H scope ce fp with pn := X.pn }
variable {X : Cx}
theorem blkH_hot {s : Shared} {H : Hp} {scope : Scope} {ce : Env} {fp : List Addr} (hc : HotC X) : HotC (blkH X s H scope ce fp) := by
  obtain ⟨p, a, b⟩ := hc
  exact ⟨p, a, b⟩
theorem blkH_inv {s0 s : Shared} {H0 H : Hp} {scope : Scope} {ce : Env} {fp : List Addr} {σ : L2.St} (I : Inv (X.blk s0 H0 scope ce fp) [] σ H s) (k : ∀ p ∈ X.pn, s.heap.get? p.1 = some p.2 ∧ H p.1 = none ∧ p.1 ≠ ce.locals ∧ p.1 ∉ frs X.stack ∧ ∀ v, p.2.data ≠ .cell v) : Inv (blkH X s0 H0 scope ce fp) [] σ H s := by
  obtain ⟨a1, a2, a3, a4, a5, a6, a7, a8, a9, b1, b2, b3, b4, b5, b6, b7, b8, b9⟩ := I.ok
  refine ⟨⟨a1, a2, a3, a4, a5, a6, a7, a8, a9, b1, b2, b3, b4, b5, b6, b7, b8, b9⟩, I.os, I.bare, I.base, I.loc, I.cell, I.free, I.freeC, fun p hp => k p ?_, I.hok, I.len⟩
  exact (List.mem_append.mp hp).elim id fun z => by cases z
variable {pins : List (Addr × Obj)} {s : Shared} {σ : L2.St} {H : Hp} {elt tg iter : Expr} {scope : Scope} {own : List (Str × Nat)} {wi : TI} {g : TG} {te : TE}
theorem lc_hot_go {pos : Pos} {use : Option (Value → Sem Unit)} {Qf : Value → Shared → Prop} {Qd : Hp → Prop} {D it : Addr} {fp : List Addr} {tn : Nat → Heap → Prop} {J : It} {W : Nat → Nat → Hp → Prop} {m0 : Nat} (hc : HotC X) (hN : X.N.Nodup) (I : Inv X pins σ H s) (ok : BlkOk X.N X.env.scope scope own)
    (hg : ∀ s H C cl fp, PG (blkH X s H scope (compEnvC scope cl C X.env) fp) tg g) (he : ∀ s H C cl fp, PE (blkH X s H scope (compEnvC scope cl C X.env) fp) elt te) (T : TurnH X.prog X.w X.K tg J fp it tn) (t0 : tn 0 s.heap) (ff : ∀ b ∈ fp, FpOk X pins H b ∧ b < s.heap.objs.size)
    (w0 : W 0 m0 H) (turn : ∀ i m H, W i m H → (J.stop i H ∧ Qd H) ∨ (J.go i H ∧ ∃ Nx : Hp → Prop, (∀ H', Nx H' → ∃ m', m' < m ∧ W (i + 1) m' H') ∧ ∀ x H', J.yld i H x H' → g x (wipe σ (own.map (·.2))) H' fun σ2 H2 => wipe σ2 (own.map (·.2)) = wipe σ (own.map (·.2)) ∧ tYes σ2 H2 fun b H3 =>
      if b = true then te σ2 H3 fun y H4 => ∃ acc, H4 D = some (.lst acc) ∧ acc.length < sizeLine ∧ Nx (upd H4 D (.lst (acc ++ [y]))) else Nx H3))
    (fin : ∀ C s' m H', Inv X pins σ H' s' → Qd H' → s'.heap.Ns C m → FpOk X pins H' C → compPost (model X.prog X.w) X.A X.xe use Qf (.ref D) C (.ok .next) s') :
    codeAny (model X.prog X.w) X.A (.compStart (.ListComp elt [⟨tg, iter, [], 0⟩] scope pos) 0 (.ref it) (.ref D) (compEnvC scope (cellsFrom (s.heap.objs.size + 1) scope.names (cloFrom X.env.cells scope.names [])) s.heap.objs.size X.env))
      (compPost (model X.prog X.w) X.A X.xe use Qf (.ref D) s.heap.objs.size) { s with heap := pushCells (s.heap.push { cls := .type "dict", data := .dict #[] }) scope.names } := by
  have B := block_start I ok hN ff
  have eg := hg s H s.heap.objs.size (cellsFrom (s.heap.objs.size + 1) scope.names (cloFrom X.env.cells scope.names [])) fp
  have ee := he s H s.heap.objs.size (cellsFrom (s.heap.objs.size + 1) scope.names (cloFrom X.env.cells scope.names [])) fp
  have cl : (compEnvC scope (cellsFrom (s.heap.objs.size + 1) scope.names (cloFrom X.env.cells scope.names [])) s.heap.objs.size X.env).locals = s.heap.objs.size := rfl
  generalize compEnvC scope (cellsFrom (s.heap.objs.size + 1) scope.names (cloFrom X.env.cells scope.names [])) s.heap.objs.size X.env = ce at B eg ee cl ⊢
  have up : ∀ b o, s.heap.get? b = some o → (pushCells (s.heap.push { cls := .type "dict", data := .dict #[] }) scope.names).get? b = some o := fun b o e => pushCells_keeps _ _ _ _ (Heap.get?_push_of_some _ e)
  have t1 : tn 0 ({ s with heap := pushCells (s.heap.push { cls := .type "dict", data := .dict #[] }) scope.names } : Shared).heap := T.keep 0 _ _ t0 fun b _ o e => up b o e
  have J1 : Inv (blkH X s H scope ce fp) [] (wipe σ (own.map (·.2))) H _ := blkH_inv B fun p hp => by
    obtain ⟨p1, p2, p3, p4, p5⟩ := I.pin p (List.mem_append_left _ hp)
    refine ⟨up _ _ p1, p2, ?_, fun z => (List.mem_cons.mp (I.stkSub p.1 z)).elim p3 p4, p5⟩
    rw [cl]; exact Nat.ne_of_lt (Heap.lt_size p1)
  have hcY : HotC (blkH X s H scope ce fp) := blkH_hot hc
  generalize ({ s with heap := pushCells (s.heap.push { cls := .type "dict", data := .dict #[] }) scope.names } : Shared) = s1 at J1 t1 ⊢
  have there : ∀ {σ' : L2.St} {H' : Hp} {s' : Shared}, Inv (blkH X s H scope ce fp) [] σ' H' s' → (∀ b ∈ fp, H' b = none) → ∀ b ∈ fp, FpOk (blkH X s H scope ce fp) [] H' b := fun {σ' H' s'} Z n b hb => by
    obtain ⟨_, _, _, _, _, f6⟩ := (ff b hb).1
    refine ⟨n b hb, (Z.ok.exf b hb).1, Z.ok.exfs b hb, .inl hb, (Z.ok.exf b hb).2, fun p hp => ?_⟩
    rcases List.mem_append.mp hp with y | y
    · exact f6 p (List.mem_append_left _ y)
    · cases y
  have loop : codeAny (model X.prog X.w) X.A (.compLoop (.ListComp elt [⟨tg, iter, [], 0⟩] scope pos) 0 (.ref it) (.ref D) ce) (compPost (model X.prog X.w) X.A X.xe use Qf (.ref D) s.heap.objs.size) s1 := by
    refine compLoop_any (fun n s' => ∃ i H', Inv (blkH X s H scope ce fp) [] (wipe σ (own.map (·.2))) H' s' ∧ tn i s'.heap ∧ (∀ b ∈ fp, H' b = none) ∧ W i n H') ?_ m0 ⟨0, H, J1, t1, fun b hb => (ff b hb).1.1, w0⟩
    rintro n s2 ⟨i, H2, I2, t2, n2, w2⟩
    rcases turn i n H2 w2 with ⟨st, qd⟩ | ⟨gn, Nx, hNx, step⟩
    · refine thnF (T.done (blkH X s H scope ce fp) rfl rfl rfl hcY i [] s2 _ H2 (fun _ _ => False) I2 (there I2 n2) t2 st) ?_
      rintro r s3 ⟨rfl, I3⟩
      obtain ⟨m, ns, _⟩ := I3.loc
      have ns' : s3.heap.Ns ce.locals m := ns
      have fr : H2 ce.locals = none := I3.free
      rw [cl] at ns' fr
      refine fin s.heap.objs.size s3 m H2 (I.call' (ch := fp) I3.os I3.base I3.hok I3.bare fun b hb => ?_) qd ns' (I.fpOk (Nat.le_refl _) fr)
      obtain ⟨_, f2, _, f4, f5, f6⟩ := (ff b hb).1
      exact ⟨f4, f2, f5, f6⟩
    · refine thnF (T.item (blkH X s H scope ce fp) rfl rfl rfl hcY i [] s2 _ H2 (fun _ _ => False) I2 (there I2 n2) t2 gn) ?_
      rintro r s3 ⟨u, rfl, h3⟩
      refine thnF h3 ?_
      rintro _ s4 ⟨x, H4, I4, r4, y4, t4, n4⟩
      have P4 := I4.pinned (there I4 n4) (T.obj _ _ t4)
      refine thnF (eg.run _ s4 _ H4 x u _ P4 r4 (step x H4 y4)) ?_
      rintro _ s5 ⟨σ5, H5, I5, w5, q5⟩
      refine thnF ((pts_nil (X := blkH X s H scope ce fp)).run _ s5 σ5 H5 _ I5 q5) ?_
      rintro b s6 ⟨H6, I6, q6⟩
      have again : ∀ {s' : Shared} {H' : Hp}, Inv (blkH X s H scope ce fp) ([] ++ pinsAt fp s4.heap) σ5 H' s' → Nx H' → ∃ m, m < n ∧ ∃ i H', Inv (blkH X s H scope ce fp) [] (wipe σ (own.map (·.2))) H' s' ∧ tn i s'.heap ∧ (∀ b ∈ fp, H' b = none) ∧ W i m H' := fun {s' H'} I' nx => by
        obtain ⟨m', lm, w'⟩ := hNx H' nx
        have pin : ∀ b ∈ fp, ∀ o, s4.heap.get? b = some o → s'.heap.get? b = some o ∧ H' b = none := fun b hb o e => by
          have z := I'.pin (b, o) (List.mem_append_right _ (List.mem_append_right _ (mem_pinsAt hb e)))
          exact ⟨z.1, z.2.1⟩
        refine ⟨m', lm, i + 1, H', (I'.unpinned (pins := [])).weak (by rw [← w5, wipe_length]) (fun j v e => (wipe_some (by rw [← w5] at e; exact e)).1), T.keep _ _ _ t4 fun b hb o e => (pin b hb o e).1, fun b hb => ?_, w'⟩
        obtain ⟨o, e, _⟩ := T.obj _ _ t4 b hb
        exact (pin b hb o e).2
      cases b with
      | false => exact again I6 (by simpa using q6)
      | true =>
        rw [if_pos rfl] at q6
        refine thnF (ee.run _ s6 σ5 H6 _ I6 q6) ?_
        rintro z s7 ⟨yv, H7, I7, r7, acc, hD, hz, nx⟩
        exact app_ok (X := blkH X s H scope ce fp) I7 hD hz r7 fun s8 I8 => again I8 nx
  exact codeAny_compStart_list loop (T.self X.A 0 _ _ _ t1 loop)
theorem lc_hot {Q : VK} {pos pos' : Pos} {use : Option (Value → Sem Unit)} {Qf : Value → Shared → Prop} (hc : HotC X) (hN : X.N.Nodup) (I : Inv X pins σ H s) (hi : PIH X tg iter wi) (ok : BlkOk X.N X.env.scope scope own)
    (hg : ∀ s H C cl fp, PG (blkH X s H scope (compEnvC scope cl C X.env) fp) tg g) (he : ∀ s H C cl fp, PE (blkH X s H scope (compEnvC scope cl C X.env) fp) elt te)
    (hs : ∀ x, foldedSetIterable iter X.env x = pure x) (h : tLc wi g tYes te (own.map (·.2)) σ H Q)
    (fin : ∀ D C s' m H', Inv X pins σ H' s' → Q (.ref D) H' → s'.heap.Ns C m → FpOk X pins H' C → compPost (model X.prog X.w) X.A X.xe use Qf (.ref D) C (.ok .next) s') :
    wpAny (model X.prog X.w) X.A (comprehension (.ListComp elt [⟨tg, iter, [], 0⟩] scope pos) scope X.env pos' (newList []) false (eval iter X.env) use) Qf X.xe s := by
  have fr : ∀ y ∈ scope.names, y.2 = .free → ∃ c, X.env.cells.lookup y.1 = some c := fun y hy e => (ok.free y hy e).elim (fun k => I.ok.has _ (.inl k)) fun k => I.ok.has _ (.inr k)
  apply wpAny_comprehension_free (use := use) rfl hs (closure_ok fr) ok.kind fun y hy e => by rw [ok.uniq y hy, e]
  apply thn (hi.run pins s σ H _ I h)
  intro xv s1 hx
  apply thn hx
  rintro itv s2 ⟨it, fp, tn, J, H2, rfl, I2, T, t2, f2, q⟩
  refine wpAny_newObj_type (newEnv_comp ?_) (Nat.zero_le _)
  obtain ⟨W, ⟨m0, w0⟩, turn⟩ := q _ (I2.hok.fresh (Nat.le_refl _))
  -- the new list, then the block's cells
  have kp : ∀ b o, s2.heap.get? b = some o → (s2.heap.push { cls := .type "list", data := .seq ([] : List Value).toArray }).get? b = some o := fun b o e => Heap.get?_push_of_some _ e
  have I3 : Inv X pins σ (upd H2 s2.heap.objs.size (.lst [])) { s2 with heap := s2.heap.push { cls := .type "list", data := .seq ([] : List Value).toArray } } :=
    I2.laid (t' := s2.toks) kp (Nat.le_refl _) ⟨Nat.zero_le _, [], 0, .nil, Heap.get?_push_size _ rfl⟩
  have lt : ∀ b ∈ fp, b < s2.heap.objs.size := fun b hb => by
    obtain ⟨o, e, _⟩ := T.obj _ _ t2 b hb
    exact Heap.lt_size e
  have f3 : ∀ b ∈ fp, FpOk X pins (upd H2 s2.heap.objs.size (.lst [])) b := fun b hb => ⟨(upd_ne (Nat.ne_of_lt (lt b hb))).trans (f2 b hb).1, (f2 b hb).2⟩
  have t3 := T.keep _ _ _ t2 fun b _ o e => kp b o e
  exact lc_hot_go (iter := iter) (use := use) (Qf := Qf) (Qd := Q (.ref s2.heap.objs.size)) (D := s2.heap.objs.size) (pos := pos) hc hN I3 ok hg he T t3 (fun b hb => ⟨f3 b hb, by rw [Heap.size_push]; exact Nat.lt_succ_of_lt (lt b hb)⟩) w0 turn fun C s' m H' J q' n f => fin _ C s' m H' J q' n f
end
section
open PySem.Calls PyProof.Rows PyProof.V PySem.Spec HotX L2H
variable {X : Cx}
theorem ps_setLcH {i : Nat} {y : Str} {py : Pos} {elt tg iter : Expr} {scope : Scope} {own : List (Str × Nat)} {pos spos : Pos} {wi : TI} {g : TG} {te : TE} (hc : HotC X) (hN : X.N.Nodup) (hy : X.N[i]? = some y) (hyl : X.env.scope.names.lookup y = some .local)
    (hsw : swapsWith (.ListComp elt [⟨tg, iter, [], 0⟩] scope pos) (some (.Name y py)) spos.line X.env = pure true) (hi : PIH X tg iter wi) (ok : BlkOk X.N X.env.scope scope own)
    (hg : ∀ s H C cl fp, PG (blkH X s H scope (compEnvC scope cl C X.env) fp) tg g) (he : ∀ s H C cl fp, PE (blkH X s H scope (compEnvC scope cl C X.env) fp) elt te)
    (hs : ∀ x, foldedSetIterable iter X.env x = pure x := by intro _; rfl) : PS X (.Assign [.Name y py] (.ListComp elt [⟨tg, iter, [], 0⟩] scope pos) spos) (tAsg (tLc wi g tYes te (own.map (·.2))) (gName i)) := by
  refine ⟨fun pins s σ H D I h => ?_⟩
  have h' : tLc wi g tYes te (own.map (·.2)) σ H (fun x H1 => gName i x σ H1 D.nx) := h
  rw [exec_Assign_Name_used _ _ _ _ hsw]
  apply wpAny_bind
  apply wpAny_standAt
  apply wpAny_bind
  apply wpAny_bind
  refine thn (lc_hot (use := some (assign (.Name y py) X.env)) (Qf := fun _ s' => SP X pins D .next s') hc hN I hi ok hg he hs h' ?_) fun _ s' hq => wpAny_pure (wpAny_pure hq)
  rintro L C s' m H' J q ns ⟨f0, f1, f2, f3, f4, f5⟩
  show wpAny _ _ (assign (.Name y py) X.env (.ref L)) _ _ _
  refine wpAny_assign_Name (store_ok2 (v := V.ref L) J hN hy (.inl hyl) rfl ?_ (.inr hyl))
  rintro s2 J2 ⟨a, sb, ha⟩
  have ne : C ≠ a := ha.elim (fun z => by rw [z]; exact f1) fun z e => f4 y a z e.symm
  exact ⟨m, ns.sameBut sb ne, fun h3 sb3 => ⟨_, H', J2.turned (t' := s2.toks) (fun b o hb e => (sb3.2 b hb).trans e) f0 f1 f3 f4 f5, q⟩⟩
end
/-! ### defs that are called while an exception is handled -/
section
open L2H PySem.Calls PyProof.Rows PySem.Spec
theorem okH {P : Program} {w : World} {K : PySem.W.Frag} {mg : Str → Option Value} {base : Heap} {x qual : Str} {st : Stmt} {f : Addr} {fd : FuncData} {N ps : List Str} {k : Nat} {sp : Sp} (F : Fun K x qual st f fd) (S : FnScope N ps (defScope st)) (len : ∀ vs H Q E, sp vs H Q E → vs.length = ps.length)
    (body : ∀ cdv A outer s H vs Q E p, HotC (cxH CX0 P w K mg base N qual (defScope st) f cdv A outer s H E p).nox → RoomH k (A.deeper (envOfC qual (defScope st) s.heap.objs.size f cdv)) → sp vs H Q E →
      ∃ t, PSs (cxH CX0 P w K mg base N qual (defScope st) f cdv A outer s H E p).nox (defBody st) t ∧ t { nx := fun _ H' => Q .non H', rt := Q } (start N vs) H) : FnH P w K mg base CX0 (k + 1) f fd ps sp := by
  obtain ⟨oc, od, kV, doc, pm, an, cdv, ct, osl, rfl, lk, hcd⟩ := F.ex
  refine fn_ofH lk hcd S len fun A outer s H vs Q E p hot hr h => ?_
  obtain ⟨t, d, q⟩ := body cdv A outer s H vs Q E p ⟨p, hot, List.mem_singleton_self p⟩ hr h
  exact ⟨t, d.nox, q⟩
section
variable (P : Program) (w : World) (K : PySem.W.Frag) (mg : Str → Option Value) (base : Heap)
def GFH (k : Nat) (x : Str) (sp : Sp) : Prop := ∃ f fd ps, FnH P w K mg base CX0 k f fd ps sp ∧ mg x = some (.ref f) ∧ PySem.W.keepIn K (.ref f) = true ∧ Binds K fd ps []
def GMH (k : Nat) (C : Addr) (m : Str) (sp : Sp) : Prop := ∃ f fd ps, FnH P w K mg base CX0 k f fd ps sp ∧ Meth K C m f ∧ Binds K fd ps []
end
theorem tMeth_eq {C : Addr} {m : Str} {sp : Sp} {E : L2.St → XK} {ta : TE} {t : TA} : tMethH C m sp E ta t = tMethS C m sp E ta t := by
  funext σ H Q
  unfold tMethH tMethS
  congr 1
  funext x H1
  refine propext ⟨?_, ?_⟩ <;> · rintro ⟨a, dx, fs, rfl, q⟩; exact ⟨a, dx, fs, rfl, q⟩
section
variable {X : Cx} {k : Nat} {x : Str} {sp : Sp} {p pos apos : Pos} {e o : Expr} {es : List Expr} {t : TA} {ta : TE} {C : Addr} {m : Str} {pl : Sem Bool}
theorem pe_gH (G : GFH X.prog X.w X.K X.mg X.base k x sp) (hr : RoomH k X.A) (hc : HotC X) (ha : PA X (e :: es) t) (hg : Gl X x := by rfl)
    (hdb : (x == ("__debug__" : Str)) = false := by decide) (he : starEach (e :: es) X.env = (false, eval e X.env) :: starEach es X.env := by rfl) (hpl : (backTo pos (starEach es X.env)).any (·.1) = false := by rfl) :
    PE X (.Call (.Name x p) (e :: es) [] pos) (tCallS sp (fun _ => E0) t) := by
  obtain ⟨f, fd, ps, F, hm, hk, hb⟩ := G
  exact pe_callH F hr hc hg hm hk hb pass0S ha hdb he hpl
theorem pe_gmH (c : Cls X.K C) (G : GMH X.prog X.w X.K X.mg X.base k C m sp) (ho : PE X o ta) (hr : RoomH k X.A) (hc : HotC X) (ha : PA X (e :: es) t)
    (he : starEach (e :: es) X.env = (false, eval e X.env) :: starEach es X.env := by rfl) (hpl : (backTo pos (starEach es X.env)).any (·.1) = false := by rfl)
    (ht : eval (.Call (.Attribute o m apos) (e :: es) [] pos) X.env = (do
      let ov ← eval o X.env; standAt apos.atName; let (f, first) ← holding [ov] (getMethod ov m pl); callWith pos f first (backTo pos (starEach (e :: es) X.env)) (backToKw pos (keywordEach [] X.env))) := by rfl) :
    PE X (.Call (.Attribute o m apos) (e :: es) [] pos) (tMethS C m sp (fun _ => E0) ta t) := by
  obtain ⟨f, fd, ps, F, hm, hb⟩ := G
  rw [← tMeth_eq]
  exact pe_methH (pl := pl) ho c hm F hr hc hb pass0S ha he hpl ht
theorem pe_gmH0 (c : Cls X.K C) (G : GMH X.prog X.w X.K X.mg X.base k C m sp) (ho : PE X o ta) (hr : RoomH k X.A) (hc : HotC X)
    (ht : eval (.Call (.Attribute o m apos) [] [] pos) X.env = (do
      let ov ← eval o X.env; standAt apos.atName; let (f, first) ← holding [ov] (getMethod ov m pl); callWith pos f first (backTo pos (starEach [] X.env)) (backToKw pos (keywordEach [] X.env))) := by rfl) :
    PE X (.Call (.Attribute o m apos) [] [] pos) (tMethS C m sp (fun _ => E0) ta tNil) := by
  obtain ⟨f, fd, ps, F, hm, hb⟩ := G
  refine ⟨fun pins s σ H Q I h => PySem.W.methodCall_KW (pl := pl) (thn (ho.run pins s σ H _ I h) fun u s1 ⟨y, H1, I1, ry, a, dx, fs, ey, ea, l, q⟩ => ?_) ht⟩
  subst ey
  cases (show u = Value.ref a from ry)
  exact getmeth_ok I1 ea c hm l (PySem.W.callWith_K0 (first := [.ref a]) I1.kIn hm.kp (run_fnH (E := fun _ => E0) (us := [.ref a]) (vs := [.ref a]) F hr hc hb (pass0S σ) I1 (.cons rfl .nil) q))
end
end
theorem huH {k : Nat} {A : Around} (hr : L2H.RoomH k A) : A.units + 1 < cLine := by have := hr.un; omega
theorem roomS {k : Nat} {A : Around} {v : Option Value} (hr : Room k A) : L2H.RoomH k (A.mark v) := ⟨hr.dp, hr.un⟩
/-! ### a tuple unpacked while an exception is handled -/
section
open PySem.Calls PyProof.Rows PyProof.V PySem.Spec HotX L2H
theorem unpack_hot {PG : Program} {wo : World} {A : Around} {EE : Value → Shared → Prop} {s : Shared} {t x1 : Addr} {xs : Array Value} {ts : List (Bool × (Value → Sem Unit))} {R : Unit → Shared → Prop} (hot : HotAt A x1 s.heap) (ht : IsTup s.heap t xs) (hn : ts.length = xs.size) (hst : ts.findIdx? (·.1) = none)
    (k : ∀ h', Heap.ExtBut s.heap.objs.size s.heap h' → wpAny (model PG wo) A (assignInOrder (ts.map (·.2)) xs.toList) R EE { s with heap := h' }) : wpAny (model PG wo) A (unpack (.ref t) ts) R EE s := by
  have nt : t ≠ s.heap.objs.size := by
    obtain ⟨o, e, _⟩ := ht
    exact Nat.ne_of_lt (Heap.lt_size e)
  have nx : x1 ≠ s.heap.objs.size := by
    obtain ⟨_, o, vs, e, _⟩ := hot
    exact Nat.ne_of_lt (Heap.lt_size e)
  unfold unpack
  rw [hn, hst]
  apply wpAny_bind
  apply wpAny_holding
  unfold unpackItems
  apply wpAny_bind
  unfold notIterableAtAll
  apply wpAny_bind
  apply wpAny_specialOf ht.typeIs slot_tuple_iter.lookup
  apply wpAny_pure
  simp only [Bool.false_eq_true, if_false]
  apply wpAny_bind
  apply wpAny_holding
  apply iter_tuple ht
  apply wpAny_bind
  apply wpAny_holding
  refine draw_tuple nt xs.size 0 _ _ ⟨_, Heap.get?_push_size _ rfl, rfl, rfl⟩ (ht.push _) (Nat.le_of_eq (Nat.zero_add _)) fun h1 it1 sb1 => ?_
  rw [List.drop_zero, List.take_of_length_le (by simp), if_neg (by simp)]
  apply wpAny_bind
  apply wpAny_holding
  have hot1 : HotAt A x1 h1 := hot_kp hot fun o e => sb1.extBut x1 o nx (Heap.get?_push_of_some _ e)
  have t1 : IsTup h1 t xs := (ht.push _).extBut sb1.extBut nt
  refine tend_hot (s := { s with heap := h1 }) hot1 nx it1 t1 (by simp) fun h2 eb2 => ?_
  simp only [Option.isSome_none, Bool.false_eq_true, if_false]
  apply wpAny_pure
  exact k h2 fun b o nb e => eb2 b o nb (sb1.extBut b o nb (Heap.get?_push_of_some _ e))
theorem pg_tupH {X : Cx} {K : PySem.W.Frag} {es : List Expr} {k n : Nat} {t : TGs} {pos : Pos} (hK : X.K = K) (hc : HotC X) (h : PGs X es t) (hn : (assignEach es X.env).length = n := by rfl) (hst : (assignEach es X.env).findIdx? (·.1) = none := by rfl) : PG X (.Tuple es k pos) (gTup K n t) := by
  subst hK
  refine ⟨?_⟩
  rintro pins s σ H v u Q I r ⟨a, xs, rfl, sq, lx, q⟩
  cases r
  obtain ⟨us, rv, ht, _⟩ := I.tuple sq
  obtain ⟨x1, hot⟩ := hc.at I
  rw [assign_Tuple]
  apply wpAny_bind
  apply wpAny_standAt
  refine unpack_hot hot ht (by simp [hn, ← lx, rv.length]) hst fun h' eb => ?_
  have J : Inv X pins σ H { s with heap := h' } := I.kept (t' := s.toks) fun b o e => eb b o (Nat.ne_of_lt (Heap.lt_size e)) e
  exact h.run pins _ σ H xs _ Q J (by simpa using rv) q
end
section
variable {P : Program} {w : World} {K : PySem.W.Frag} {mg : Str → Option Value} {base : Heap} {c : Cl}
def Dr (K : PySem.W.Frag) (H : Hp) (st sc : Addr) : Prop := ∃ (i v : Int) (ns : List Int), 0 ≤ i ∧ 0 ≤ v ∧ H st = some (.lst [.int i, .int v]) ∧ ns.length ≤ 63 ∧ Sc K H sc ns
def sp__law_draw (K : PySem.W.Frag) : Sp := fun vs H Q _ => ∃ st sc n, vs = [.ref st, .ref sc, .int n] ∧ 0 < n ∧ n < 2 ^ 64 ∧ Dr K H st sc ∧
  ∀ d H', 0 ≤ d → d < n → Dr K H' st sc → Kp (F1 st) H H' → Q (.int d) H'
theorem ok__law_draw (T : Txt K mg c) : GF P w K mg base CX0 1 "_law_draw" (sp__law_draw K) := by
  obtain ⟨f, fd, F, gm⟩ := T.f__law_draw
  refine ⟨f, fd, ["_law_state", "_law_script", "_law_size"], F.ok sc__law_draw ?_ (fun cdv A outer s H vs Q E hr h => ?_), gm, F.kp, (F.binds (ps := ["_law_state", "_law_script", "_law_size"]) fun _ _ _ _ _ _ us hl => match us, hl with | [_, _, _], _ => rfl)⟩
  · rintro vs H Q E ⟨_, _, _, rfl, _⟩
    rfl
  · obtain ⟨st, sc, n, rfl, hn0, hn1, ⟨i, v, ns, hi, hv, hst, hlen, hsc⟩, k⟩ := h
    refine ⟨_, (C8.pss_cut (ps_if (pt_cmpR op_eq (pe_ix (r := rIxL K) ix_list (pv 0) pe_int (fun _ _ => rfl)) pe_int (nomark _)) (pss_cons (ps_set (i := 3) sc__law_draw.nd rfl (Or.inl rfl) pe_int)
      (C8.pss_cut (ps_if (pt_cmpR op_gt (pe_callB (r := rLenQ K) c_len (by rfl) T.z_len PySem.boot_len (pa_cons (pv 1) pa_nil)) pe_int (nomark _)) (pss_one (ps_set (i := 3) sc__law_draw.nd rfl (Or.inl rfl) (pe_ix (r := rIxL K) ix_list (pv 1) (pe_op op_mod (pe_ix (r := rIxL K) ix_list (pv 0) pe_int (fun _ _ => rfl)) (pe_callB (r := rLenQ K) c_len (by rfl) T.z_len PySem.boot_len (pa_cons (pv 1) pa_nil))) (fun _ _ => rfl)))) pss_nil)
      (C8.pss_cut (ps_if (pt_cmpR op_lt (pv 3) pe_int (nomark _)) (pss_one (ps_set (i := 3) sc__law_draw.nd rfl (Or.inl rfl) (pe_op op_sub pe_int (pe_op op_mul pe_int (pv 3))))) pss_nil)
      (pss_cons (ps_set (i := 4) sc__law_draw.nd rfl (Or.inl rfl) (pe_op op_mod (pe_callTy c_int (by rfl) T.z_int (by decide +kernel) (pa_cons (pe_op op_mul (pe_op op_add (pe_op op_add (pv 3) (pe_op op_mul (pe_ix (r := rIxL K) ix_list (pv 0) pe_int (fun _ _ => rfl)) pe_int)) pe_int) pe_int) pa_nil)) pe_int))
      (pss_cons (ps_asg (pe_op op_mod (pe_callTy c_int (by rfl) T.z_int (by decide +kernel) (pa_cons (pe_op op_add (pe_op op_mul (pv 4) pe_int) (pe_op op_mul (pe_ix (r := rIxL K) ix_list (pv 0) pe_int (fun _ _ => rfl)) pe_int)) pa_nil)) pe_int) (pg_sub (pv 0) pe_int set_list))
      (C8.pss_cut (ps_if (PW.pt (pw_and (pt_cmpR op_ge (pv 3) (pe_op op_pow pe_int pe_int) (nomark _)) (pw_and1 (pt_cmpR op_lt (pe_ix (r := rIxL K) ix_list (pv 0) pe_int (fun _ _ => rfl)) (pe_callB (r := rLenQ K) c_len (by rfl) T.z_len PySem.boot_len (pa_cons (pv 1) pa_nil)) (nomark _))))) (pss_one (ps_asg (pv 3) (pg_sub (pv 0) pe_int set_list))) pss_nil)
      (pss_one (ps_asg (pe_op op_add (pe_ix (r := rIxL K) ix_list (pv 0) pe_int (fun _ _ => rfl)) pe_int) (pg_sub (pv 0) pe_int set_list))))))))) pss_nil)
      (pss_cons (ps_set (i := 5) sc__law_draw.nd rfl (Or.inl rfl) (pe_op op_mod (pe_callTy c_int (by rfl) T.z_int (by decide +kernel) (pa_cons (pe_ix (r := rIxL K) ix_list (pv 0) pe_int (fun _ _ => rfl)) pa_nil)) (pv 2)))
      (pss_cons (ps_asg (pe_op op_fdivW (pe_ix (r := rIxL K) ix_list (pv 0) pe_int (fun _ _ => rfl)) (pv 2)) (pg_sub (pv 0) pe_int set_list))
      (pss_one (ps_ret (pv 5)))))), ?_⟩
    walk_at "cx"
    walk_at "rd"
    have kpu : ∀ o, Kp (F1 st) H (upd H st o) := fun o => Kp.put hst id
    refine x_cut (fun σ' H' => ∃ (i' v' : Int) (u1 u2 : Option V), σ' = [some (.ref st), some (.ref sc), some (.int n), u1, u2, none] ∧ 0 ≤ i' ∧ 0 ≤ v' ∧ H' = upd H st (.lst [.int i', .int v'])) ?_ ?_
    · walk_at "rd"
      refine ite_dec (fun e => ?_) (fun e => ?_)
      · walk_at "rd"
        refine x_cut (fun σ' H' => ∃ (c : Int), σ' = [some (.ref st), some (.ref sc), some (.int n), some (.int c), none, none] ∧ H = H') ?_ ?_
        · walk_at "rd"
          refine ite_dec (fun e1 => ?_) (fun e1 => ?_)
          · have hl : (0 : Int) < ((ns.map V.int).length : Int) := e1
            have hb := Int.emod_lt_of_pos i hl
            have hb0 := Int.emod_nonneg i (Int.ne_of_gt hl)
            walk_at "rd"
            refine x_ixL hsc.sq (v := .int (ns.getD (i % ((ns.map V.int).length : Int)).toNat 0)) (atI_at (i % ((ns.map V.int).length : Int)).toNat (by omega) ?_) ?_
            · rw [List.length_map] at *
              rw [List.getElem?_map, List.getD_eq_getElem?_getD, List.getElem?_eq_getElem (by omega)]
              rfl
            · walk_at "rd"
              exact ⟨_, rfl, rfl⟩
          · exact ⟨0, rfl, rfl⟩
        · rintro σ' H' ⟨c, rfl, rfl⟩
          refine x_cut (fun σ' H' => ∃ (c : Int), 0 ≤ c ∧ σ' = [some (.ref st), some (.ref sc), some (.int n), some (.int c), none, none] ∧ H = H') ?_ ?_
          · walk_at "rd"
            refine ite_dec (fun e2 => ?_) (fun e2 => ?_)
            · walk_at "rd"
              exact ⟨_, by omega, rfl, rfl⟩
            · exact ⟨c, by omega, rfl, rfl⟩
          · rintro σ' H' ⟨c, hc, rfl, rfl⟩
            walk_at "rd"
            have hm0 : ∀ z : Int, 0 ≤ z % 4294967291 := fun z => Int.emod_nonneg z (by decide)
            refine x_cut (fun σ' H' => ∃ (v' : Int) (u1 : Option V), 0 ≤ v' ∧ σ' = [some (.ref st), some (.ref sc), some (.int n), some (.int c), u1, none] ∧ H' = upd H st (.lst [.int i, .int v'])) ?_ ?_
            · walk_at "rd"
              refine ite_dec (fun e3 => ?_) (fun e3 => ?_)
              · walk_at "rd"
                refine x_lenL (hsc.kp (kpu _)).sq ?_
                walk_at "rd"
                refine ite_dec (fun e4 => ?_) (fun e4 => ?_)
                · walk_at "rd"
                  exact ⟨c, _, hc, rfl, upd_upd⟩
                · exact ⟨_, _, hm0 _, rfl, rfl⟩
              · exact ite_bool (fun z => by cases z) (fun _ => ⟨_, _, hm0 _, rfl, rfl⟩)
            · rintro σ' H' ⟨v', u1, hv', rfl, rfl⟩
              walk_at "rd"
              exact ⟨i + 1, v', _, _, rfl, by omega, hv', upd_upd⟩
      · exact ⟨i, v, _, _, rfl, hi, hv, (upd_id hst).symm⟩
    · rintro σ' H' ⟨i', v', u1, u2, rfl, hi', hv', rfl⟩
      walk_at "rd"
      refine k _ _ (Int.emod_nonneg _ (by omega)) (Int.emod_lt_of_pos _ hn0) ⟨i', v' / n, ns, hi', Int.ediv_nonneg hv' (by omega), upd_same, hlen, ?_⟩ ?_
      · rw [upd_upd]; exact hsc.kp (kpu _)
      · rw [upd_upd]; exact kpu _
theorem okH__law_draw (T : Txt K mg c) : GFH P w K mg base 1 "_law_draw" (sp__law_draw K) := by
  obtain ⟨f, fd, F, gm⟩ := T.f__law_draw
  refine ⟨f, fd, ["_law_state", "_law_script", "_law_size"], okH F sc__law_draw ?_ (fun cdv A outer s H vs Q E pp hc hr h => ?_), gm, F.kp, (F.binds (ps := ["_law_state", "_law_script", "_law_size"]) fun _ _ _ _ _ _ us hl => match us, hl with | [_, _, _], _ => rfl)⟩
  · rintro vs H Q E ⟨_, _, _, rfl, _⟩
    rfl
  · obtain ⟨st, sc, n, rfl, hn0, hn1, ⟨i, v, ns, hi, hv, hst, hlen, hsc⟩, k⟩ := h
    refine ⟨_, (C8.pss_cut (ps_if (pt_cmpR op_eq (pe_ix (r := rIxL K) ix_list (pv 0) pe_int (fun _ _ => rfl)) pe_int (nomark _)) (pss_cons (ps_set (i := 3) sc__law_draw.nd rfl (Or.inl rfl) pe_int)
      (C8.pss_cut (ps_if (pt_cmpR op_gt (pe_callB (r := rLenQ K) c_len (by rfl) T.z_len PySem.boot_len (pa_cons (pv 1) pa_nil)) pe_int (nomark _)) (pss_one (ps_set (i := 3) sc__law_draw.nd rfl (Or.inl rfl) (pe_ix (r := rIxL K) ix_list (pv 1) (pe_op op_mod (pe_ix (r := rIxL K) ix_list (pv 0) pe_int (fun _ _ => rfl)) (pe_callB (r := rLenQ K) c_len (by rfl) T.z_len PySem.boot_len (pa_cons (pv 1) pa_nil))) (fun _ _ => rfl)))) pss_nil)
      (C8.pss_cut (ps_if (pt_cmpR op_lt (pv 3) pe_int (nomark _)) (pss_one (ps_set (i := 3) sc__law_draw.nd rfl (Or.inl rfl) (pe_op op_sub pe_int (pe_op op_mul pe_int (pv 3))))) pss_nil)
      (pss_cons (ps_set (i := 4) sc__law_draw.nd rfl (Or.inl rfl) (pe_op op_mod (pe_callTy c_int (by rfl) T.z_int (by decide +kernel) (pa_cons (pe_op op_mul (pe_op op_add (pe_op op_add (pv 3) (pe_op op_mul (pe_ix (r := rIxL K) ix_list (pv 0) pe_int (fun _ _ => rfl)) pe_int)) pe_int) pe_int) pa_nil)) pe_int))
      (pss_cons (ps_asg (pe_op op_mod (pe_callTy c_int (by rfl) T.z_int (by decide +kernel) (pa_cons (pe_op op_add (pe_op op_mul (pv 4) pe_int) (pe_op op_mul (pe_ix (r := rIxL K) ix_list (pv 0) pe_int (fun _ _ => rfl)) pe_int)) pa_nil)) pe_int) (pg_sub (pv 0) pe_int set_list))
      (C8.pss_cut (ps_if (PW.pt (pw_and (pt_cmpR op_ge (pv 3) (pe_op op_pow pe_int pe_int) (nomark _)) (pw_and1 (pt_cmpR op_lt (pe_ix (r := rIxL K) ix_list (pv 0) pe_int (fun _ _ => rfl)) (pe_callB (r := rLenQ K) c_len (by rfl) T.z_len PySem.boot_len (pa_cons (pv 1) pa_nil)) (nomark _))))) (pss_one (ps_asg (pv 3) (pg_sub (pv 0) pe_int set_list))) pss_nil)
      (pss_one (ps_asg (pe_op op_add (pe_ix (r := rIxL K) ix_list (pv 0) pe_int (fun _ _ => rfl)) pe_int) (pg_sub (pv 0) pe_int set_list))))))))) pss_nil)
      (pss_cons (ps_set (i := 5) sc__law_draw.nd rfl (Or.inl rfl) (pe_op op_mod (pe_callTy c_int (by rfl) T.z_int (by decide +kernel) (pa_cons (pe_ix (r := rIxL K) ix_list (pv 0) pe_int (fun _ _ => rfl)) pa_nil)) (pv 2)))
      (pss_cons (ps_asg (pe_op op_fdivW (pe_ix (r := rIxL K) ix_list (pv 0) pe_int (fun _ _ => rfl)) (pv 2)) (pg_sub (pv 0) pe_int set_list))
      (pss_one (ps_ret (pv 5)))))), ?_⟩
    walk_at "cx"
    walk_at "rd"
    have kpu : ∀ o, Kp (F1 st) H (upd H st o) := fun o => Kp.put hst id
    refine x_cut (fun σ' H' => ∃ (i' v' : Int) (u1 u2 : Option V), σ' = [some (.ref st), some (.ref sc), some (.int n), u1, u2, none] ∧ 0 ≤ i' ∧ 0 ≤ v' ∧ H' = upd H st (.lst [.int i', .int v'])) ?_ ?_
    · walk_at "rd"
      refine ite_dec (fun e => ?_) (fun e => ?_)
      · walk_at "rd"
        refine x_cut (fun σ' H' => ∃ (c : Int), σ' = [some (.ref st), some (.ref sc), some (.int n), some (.int c), none, none] ∧ H = H') ?_ ?_
        · walk_at "rd"
          refine ite_dec (fun e1 => ?_) (fun e1 => ?_)
          · have hl : (0 : Int) < ((ns.map V.int).length : Int) := e1
            have hb := Int.emod_lt_of_pos i hl
            have hb0 := Int.emod_nonneg i (Int.ne_of_gt hl)
            walk_at "rd"
            refine x_ixL hsc.sq (v := .int (ns.getD (i % ((ns.map V.int).length : Int)).toNat 0)) (atI_at (i % ((ns.map V.int).length : Int)).toNat (by omega) ?_) ?_
            · rw [List.length_map] at *
              rw [List.getElem?_map, List.getD_eq_getElem?_getD, List.getElem?_eq_getElem (by omega)]
              rfl
            · walk_at "rd"
              exact ⟨_, rfl, rfl⟩
          · exact ⟨0, rfl, rfl⟩
        · rintro σ' H' ⟨c, rfl, rfl⟩
          refine x_cut (fun σ' H' => ∃ (c : Int), 0 ≤ c ∧ σ' = [some (.ref st), some (.ref sc), some (.int n), some (.int c), none, none] ∧ H = H') ?_ ?_
          · walk_at "rd"
            refine ite_dec (fun e2 => ?_) (fun e2 => ?_)
            · walk_at "rd"
              exact ⟨_, by omega, rfl, rfl⟩
            · exact ⟨c, by omega, rfl, rfl⟩
          · rintro σ' H' ⟨c, hc, rfl, rfl⟩
            walk_at "rd"
            have hm0 : ∀ z : Int, 0 ≤ z % 4294967291 := fun z => Int.emod_nonneg z (by decide)
            refine x_cut (fun σ' H' => ∃ (v' : Int) (u1 : Option V), 0 ≤ v' ∧ σ' = [some (.ref st), some (.ref sc), some (.int n), some (.int c), u1, none] ∧ H' = upd H st (.lst [.int i, .int v'])) ?_ ?_
            · walk_at "rd"
              refine ite_dec (fun e3 => ?_) (fun e3 => ?_)
              · walk_at "rd"
                refine x_lenL (hsc.kp (kpu _)).sq ?_
                walk_at "rd"
                refine ite_dec (fun e4 => ?_) (fun e4 => ?_)
                · walk_at "rd"
                  exact ⟨c, _, hc, rfl, upd_upd⟩
                · exact ⟨_, _, hm0 _, rfl, rfl⟩
              · exact ite_bool (fun z => by cases z) (fun _ => ⟨_, _, hm0 _, rfl, rfl⟩)
            · rintro σ' H' ⟨v', u1, hv', rfl, rfl⟩
              walk_at "rd"
              exact ⟨i + 1, v', _, _, rfl, by omega, hv', upd_upd⟩
      · exact ⟨i, v, _, _, rfl, hi, hv, (upd_id hst).symm⟩
    · rintro σ' H' ⟨i', v', u1, u2, rfl, hi', hv', rfl⟩
      walk_at "rd"
      refine k _ _ (Int.emod_nonneg _ (by omega)) (Int.emod_lt_of_pos _ hn0) ⟨i', v' / n, ns, hi', Int.ediv_nonneg hv' (by omega), upd_same, hlen, ?_⟩ ?_
      · rw [upd_upd]; exact hsc.kp (kpu _)
      · rw [upd_upd]; exact kpu _
theorem Dr.kp {K : PySem.W.Frag} {F : Addr → Prop} {H H' : Hp} {st sc : Addr} (s : Kp F H H') (d : Dr K H st sc) (n : ¬ F st) : Dr K H' st sc := by
  obtain ⟨i, v, ns, hi, hv, hst, hl, hs⟩ := d
  exact ⟨i, v, ns, hi, hv, s.get hst n, hl, hs.kp s⟩
theorem Dr.ne {K : PySem.W.Frag} {H H0 : Hp} {st sc D : Addr} {o : HO} (d : H0 st = some o) (n : H0 D = none) : st ≠ D := ne_of_none d n
theorem Dr.off {K : PySem.W.Frag} {H : Hp} {st sc D : Addr} {o : HO} (d : Dr K H st sc) (n : st ≠ D) (m : ∀ u, H D = some u → ¬ Fix u) : Dr K (upd H D o) st sc := by
  obtain ⟨i, v, ns, hi, hv, hst, hl, hs⟩ := d
  refine ⟨i, v, ns, hi, hv, by rw [upd_ne n]; exact hst, hl, ?_⟩
  rcases hs with ⟨f, h⟩ | h
  · refine .inl ⟨f, ?_⟩
    rw [upd_ne fun e => m (.frz f (.lst (ns.map V.int))) (by rw [← e]; exact h) trivial]
    exact h
  · exact .inr h
theorem Dr.trk {K : PySem.W.Frag} {H : Hp} {st sc : Addr} (h : Dr K H st sc) : ∃ o, H st = some o := by
  obtain ⟨_, _, _, _, _, e, _⟩ := h
  exact ⟨_, e⟩
theorem Dr.new {K : PySem.W.Frag} {H : Hp} {st sc l : Addr} (h : Dr K H st sc) (n : H l = none) : l ≠ st := fun e => by
  obtain ⟨_, z⟩ := h.trk
  rw [← e, n] at z; cases z
end
section
variable {P : Program} {w : World} {K : PySem.W.Frag} {mg : Str → Option Value} {base : Heap} {c : Cl}
def sp_write_number : Sp := fun vs H Q _ => ∃ (k : Nat) (n : Int), vs = [.int k, .int n] ∧ k ≤ 8 ∧ ∀ p H', H p = none → Kp F0 H H' → H' p = some (.lst ((wn k n).map V.int)) → Q (.ref p) H'
theorem ok_write_number (T : Txt K mg c) : GF P w K mg base CX0 1 "write_number" sp_write_number := by
  obtain ⟨f, fd, F, gm⟩ := T.f_write_number
  refine ⟨f, fd, ["width", "number"], F.ok sc_write_number ?_ (fun cdv A outer s H vs Q E hr h => ?_), gm, F.kp, (F.binds (ps := ["width", "number"]) fun _ _ _ _ _ _ us hl => match us, hl with | [_, _], _ => rfl)⟩
  · rintro vs H Q E ⟨_, _, rfl, _⟩
    rfl
  · obtain ⟨n, z, rfl, hn, k⟩ := h
    refine ⟨_, (pss_one (ps_ret (pe_lc (own := [("k", 2)]) (g := (gName 2)) (tt := tYes) rfl sc_write_number.nd (pi_range1 (by rfl) T.z_range (pa_cons (pv 0) pa_nil)) (blkOk_by (N := ["width", "number", "k"]) (sc := defScope s_write_number) (by decide +kernel)) (fun _ _ _ _ _ => (pg_name (i := 2) sc_write_number.nd rfl (Or.inl rfl))) (fun _ _ _ _ _ => pts_nil) (fun _ _ _ _ _ => (pe_op o_and (pe_op op_shr (pv 1) (pe_op op_mul pe_int (pe_op op_sub (pe_op op_sub (pv 0) pe_int) (pv 2)))) pe_int))))), ?_⟩
    walk_at "cx"
    walk_at "rd"
    refine wlcP (ys := (wn n z).map V.int) Wk.rng (by rw [List.length_map, rgl_len, wn_len]; rfl) (by rw [rgl_len]; omega) (fun _ _ => trivial) (fun i x y H' R ex ey kp hR => ?_) (fun D H1 hD kp hDl => k D H1 hD kp hDl)
    obtain ⟨hi, rfl⟩ := rgl_at ex
    have hi' : i < n := hi
    rw [List.getElem?_map, wn_get hi'] at ey
    cases ey
    walk_at "rd"
    refine ⟨rfl, ?_⟩
    walk_at "rd"
    have e : 8 * ((n : Int) - 1 - (0 + (i : Nat))) = ((8 * (n - 1 - i) : Nat) : Int) := by omega
    have q := hR H' (Kp.refl _)
    rw [← pow_256] at q
    rw [e]
    exact q
def sp_read_number (K : PySem.W.Frag) : Sp := fun vs H Q _ => ∃ (a : Addr) (ds : List Int) (i k : Nat), vs = [.ref a, .int i, .int k] ∧ SqL K H a (ds.map V.int) ∧ ∀ H', Kp F0 H H' → Q (.int (rn ((ds.drop i).take k))) H'
theorem ok_read_number (T : Txt K mg c) : GF P w K mg base CX0 1 "read_number" (sp_read_number K) := by
  obtain ⟨f, fd, F, gm⟩ := T.f_read_number
  refine ⟨f, fd, ["data", "place", "width"], F.ok sc_read_number ?_ (fun cdv A outer s H vs Q E hr h => ?_), gm, F.kp, (F.binds (ps := ["data", "place", "width"]) fun _ _ _ _ _ _ us hl => match us, hl with | [_, _, _], _ => rfl)⟩
  · rintro vs H Q E ⟨_, _, _, _, rfl, _⟩
    rfl
  · obtain ⟨a, ds, i, n, rfl, ha, k⟩ := h
    refine ⟨_, (pss_cons (ps_set (i := 3) sc_read_number.nd rfl (Or.inl rfl) pe_int)
      (pss_cons (ps_for PassesOwn.never rfl (pi_listK rfl (pe_slice (r := rSlL K) sl_list (pv 0) (po_some (pv 1)) (po_some (pe_op op_add (pv 1) (pv 2))))) (pg_name (i := 4) sc_read_number.nd rfl (Or.inl rfl)) (pss_one (ps_set (i := 3) sc_read_number.nd rfl (Or.inl rfl) (pe_op op_add (pe_op op_mul (pv 3) pe_int) (pv 4)))))
      (pss_one (ps_ret (pv 3))))), ?_⟩
    walk_at "cx"
    walk_at "rd"
    refine x_slL ha fun l H1 hl kp hl1 => ?_
    rw [cut_mid (by omega) (by omega), show ((i : Int) + (n : Int) - (i : Int)).toNat = n by omega, Int.toNat_natCast] at hl1
    walk_at "rd"
    refine wfor Wk.list (fun j σ H' => ∃ u, σ = [some (.ref a), some (.int i), some (.int n), some (.int (rn (((ds.drop i).take n).take j))), u] ∧ H1 = H') ⟨none, rfl, rfl⟩ (fun j σ H' ⟨u, _, e⟩ => by rw [← e]; exact SqL.of hl1) ?_ ?_
    · rintro j x σ H' ex ⟨u, rfl, rfl⟩
      rw [List.getElem?_map] at ex
      cases q : ((ds.drop i).take n)[j]? with
      | none => rw [q] at ex; cases ex
      | some z =>
        rw [q] at ex
        cases ex
        walk_at "rd"
        refine ⟨some (.int z), ?_, rfl⟩
        rw [List.take_succ (l := (ds.drop i).take n), q]
        show _ = [some (V.ref a), some (V.int i), some (V.int n), some (V.int (rn (((ds.drop i).take n).take j ++ [z]))), some (V.int z)]
        rw [rn_app]; rfl
    · rintro σ H' ⟨u, rfl, rfl⟩
      walk_at "rd"
      rw [List.length_map, List.take_length]
      exact k H1 kp
end
section
variable {P : Program} {w : World} {K : PySem.W.Frag} {mg : Str → Option Value} {base : Heap} {c : Cl}
def sp_write_group (K : PySem.W.Frag) : Sp := fun vs H Q _ => ∃ O a ws g, vs = [.ref a] ∧ SqL K H a ws ∧ Paired (PAt O H) ws g ∧ Good g ∧ ∀ b H', H b = none → Kp F0 H H' → H' b = some (.lst ((wg g).map V.int)) → Q (.ref b) H'
theorem fm_le {g : List (Int × List Int)} (h : Good g) (i : Nat) : (wn 4 g.length ++ (g.take i).flatMap chunk).length ≤ 20000 := by
  rw [List.length_append, wn_len, fm_len (n := 260) fun q hq => chunk_len (h.q q (List.mem_of_mem_take hq)).2.2, List.length_take]
  have := h.n
  omega
theorem ok_write_group (T : Txt K mg c) : GF P w K mg base CX0 2 "write_group" (sp_write_group K) := by
  obtain ⟨f, fd, F, gm⟩ := T.f_write_group
  obtain ⟨_, mg_NUMBER_SIZE⟩ := T.m_NUMBER_SIZE
  refine ⟨f, fd, ["pairs"], F.ok sc_write_group ?_ (fun cdv A outer s H vs Q E hr h => ?_), gm, F.kp, (F.binds (ps := ["pairs"]) fun _ _ _ _ _ _ us hl => match us, hl with | [_], _ => rfl)⟩
  · rintro vs H Q E ⟨_, _, _, _, rfl, _⟩
    rfl
  · obtain ⟨O, a, ws, g, rfl, ha, hp, hg, k⟩ := h
    have lw : ws.length = g.length := hp.length
    refine ⟨_, (pss_cons (ps_set (i := 1) sc_write_group.nd rfl (Or.inl rfl) (pe_g (ok_write_number T) (hr.mono (by decide)) pass0S (pa_cons (pe_glob (v := .int 4) rfl mg_NUMBER_SIZE ⟨_, rfl⟩) (pa_cons (pe_callB (r := rLenQ K) c_len (by rfl) T.z_len PySem.boot_len (pa_cons (pv 0) pa_nil)) pa_nil))))
      (pss_cons (ps_for PassesOwn.never rfl (pi_listK rfl (pv 0)) (pg_kT rfl (pg_tup (n := 2) rfl (pgs_cons (pg_name (i := 2) sc_write_group.nd rfl (Or.inl rfl)) (pgs_cons (pg_name (i := 3) sc_write_group.nd rfl (Or.inl rfl)) pgs_nil)))) (pss_cons (ps_expr (pe_kBM rfl (pe_bm PySem.F.plainAttrs_list PySem.F.slot_list_extend PySem.F.type_list_extend mt_extend (pv 1) (pa_cons (pe_g (ok_write_number T) (hr.mono (by decide)) pass0S (pa_cons (pe_glob (v := .int 4) rfl mg_NUMBER_SIZE ⟨_, rfl⟩) (pa_cons (pv 2) pa_nil))) pa_nil))))
      (pss_one (ps_expr (pe_kBM rfl (pe_bm PySem.F.plainAttrs_list PySem.F.slot_list_extend PySem.F.type_list_extend mt_extend (pv 1) (pa_cons (pv 3) pa_nil)))))))
      (pss_one (ps_ret (pv 1))))), ?_⟩
    walk_at "cx"
    walk_at "rd"
    rw [lw]
    refine ⟨4, g.length, rfl, by decide, fun d H1 hd k1 e1 => ?_⟩
    walk_at "rd"
    refine x_iL1 (k1.sqL ha id) ?_
    refine wfor Wk.list (fun i σ H' => ∃ u v, σ = [some (.ref a), some (.ref d), u, v] ∧ H' d = some (.lst ((wn 4 g.length ++ (g.take i).flatMap chunk).map V.int)) ∧ Kp F0 H H')
      ⟨none, none, rfl, by rw [e1]; simp, k1⟩ (fun i σ H' ⟨_, _, _, _, kk⟩ => kk.sqL ha id) ?_ ?_
    · rintro i x σ H2 ex ⟨u, v, rfl, ed, kk⟩
      obtain ⟨q, eq, t, l, rfl, ht, hl, _⟩ := pgt hp ex
      have ht2 := kk.tup ht
      have hl2 := kk.get hl id
      have l2 := (hg.q q (List.mem_of_getElem? eq)).2.2
      walk_at "rd"
      refine ⟨4, q.1, rfl, by decide, fun b H3 hb k3 e3 => ?_⟩
      have ed3 := k3.get ed id
      walk_at "rd"
      have l3 := fm_le hg i
      refine x_ext ed3 e3 (by rw [List.length_map, List.length_map, wn_len]; omega) fun H4 e4 k4 => ?_
      have ndl : d ≠ l := (ne_of_none hl hd).symm
      have hl4 := k4.get (k3.get hl2 id) ndl.symm
      walk_at "rd"
      refine x_ext e4 hl4 (by rw [List.length_append, List.length_map, List.length_map, List.length_map, wn_len]; omega) fun H5 e5 k5 => ?_
      refine ⟨_, _, rfl, ?_, (((kk.trans k3 fun _ z => z.elim).trans k4 fun x z => .inr (by rw [z]; exact hd)).trans k5 fun x z => .inr (by rw [z]; exact hd))⟩
      rw [e5, takes eq]
      unfold chunk
      simp only [List.map_append, List.append_assoc]
    · rintro σ H2 ⟨u, v, rfl, ed, kk⟩
      rw [lw, List.take_length] at ed
      walk_at "rd"
      exact k d H2 hd kk ed
def sp_read_groups (K : PySem.W.Frag) : Sp := fun vs H Q _ => ∃ a ds gs more j, vs = [.ref a] ∧ SqL K H a (ds.map V.int) ∧ ds = gs.flatMap wg ++ (wg more).take j ∧ j < (wg more).length ∧ (∀ g ∈ gs, Good g) ∧ Good more ∧ gs.length ≤ 100000 ∧
  ∀ r H', H r = none → Kp F0 H H' → GsAt (fun b => H b = none) H' r gs → Q (.ref r) H'
theorem ok_read_groups (T : Txt K mg c) : GF P w K mg base CX0 2 "read_groups" (sp_read_groups K) := by
  obtain ⟨f, fd, F, gm⟩ := T.f_read_groups
  obtain ⟨_, mg_NUMBER_SIZE⟩ := T.m_NUMBER_SIZE
  obtain ⟨_, mg_PAGE_SIZE⟩ := T.m_PAGE_SIZE
  refine ⟨f, fd, ["data"], F.ok sc_read_groups ?_ (fun cdv A outer s H vs Q E hr h => ?_), gm, F.kp, (F.binds (ps := ["data"]) fun _ _ _ _ _ _ us hl => match us, hl with | [_], _ => rfl)⟩
  · rintro vs H Q E ⟨_, _, _, _, _, rfl, _⟩
    rfl
  · obtain ⟨a, ds, gs, more, j, rfl, ha, eds, hj, hgs, hm, lgs, k⟩ := h
    refine ⟨_, (pss_cons (ps_set (i := 1) sc_read_groups.nd rfl (Or.inl rfl) (pe_lst pa_nil))
      (pss_cons (ps_set (i := 2) sc_read_groups.nd rfl (Or.inl rfl) pe_int)
      (pss_cons (ps_while PassesOwn.never (pt_cmpR op_le (pe_op op_add (pv 2) (pe_glob (v := .int 4) rfl mg_NUMBER_SIZE ⟨_, rfl⟩)) (pe_callB (r := rLenQ K) c_len (by rfl) T.z_len PySem.boot_len (pa_cons (pv 0) pa_nil)) (nomark _)) (pss_cons (ps_set (i := 3) sc_read_groups.nd rfl (Or.inl rfl) (pe_g (ok_read_number T) (hr.mono (by decide)) pass0S (pa_cons (pv 0) (pa_cons (pv 2) (pa_cons (pe_glob (v := .int 4) rfl mg_NUMBER_SIZE ⟨_, rfl⟩) pa_nil)))))
      (pss_cons (ps_aug (i := 2) sc_read_groups.nd rfl (Or.inl rfl) (pe_glob (v := .int 4) rfl mg_NUMBER_SIZE ⟨_, rfl⟩) ip_add)
      (pss_cons (ps_if (pt_cmpR op_gt (pe_op op_add (pv 2) (pe_op op_mul (pv 3) (pe_op op_add (pe_glob (v := .int 4) rfl mg_NUMBER_SIZE ⟨_, rfl⟩) (pe_glob (v := .int 256) rfl mg_PAGE_SIZE ⟨_, rfl⟩)))) (pe_callB (r := rLenQ K) c_len (by rfl) T.z_len PySem.boot_len (pa_cons (pv 0) pa_nil)) (nomark _)) (pss_one (ps_ret (pv 1))) pss_nil)
      (pss_cons (ps_set (i := 4) sc_read_groups.nd rfl (Or.inl rfl) (pe_lst pa_nil))
      (pss_cons (ps_for PassesOwn.never rfl (pi_range1 (by rfl) T.z_range (pa_cons (pv 3) pa_nil)) (pg_name (i := 5) sc_read_groups.nd rfl (Or.inl rfl)) (pss_cons (ps_set (i := 6) sc_read_groups.nd rfl (Or.inl rfl) (pe_op op_add (pv 2) (pe_glob (v := .int 4) rfl mg_NUMBER_SIZE ⟨_, rfl⟩)))
      (pss_cons (ps_expr (pe_kBM rfl (pe_bm PySem.F.plainAttrs_list PySem.F.slot_list_append PySem.F.type_list_append mt_append (pv 4) (pa_cons (pe_tup (pa_cons (pe_g (ok_read_number T) (hr.mono (by decide)) pass0S (pa_cons (pv 0) (pa_cons (pv 2) (pa_cons (pe_glob (v := .int 4) rfl mg_NUMBER_SIZE ⟨_, rfl⟩) pa_nil)))) (pa_cons (pe_slice (r := rSlL K) sl_list (pv 0) (po_some (pv 6)) (po_some (pe_op op_add (pv 6) (pe_glob (v := .int 256) rfl mg_PAGE_SIZE ⟨_, rfl⟩)))) pa_nil))) pa_nil))))
      (pss_one (ps_set (i := 2) sc_read_groups.nd rfl (Or.inl rfl) (pe_op op_add (pv 6) (pe_glob (v := .int 256) rfl mg_PAGE_SIZE ⟨_, rfl⟩)))))))
      (pss_one (ps_expr (pe_kBM rfl (pe_bm PySem.F.plainAttrs_list PySem.F.slot_list_append PySem.F.type_list_append mt_append (pv 1) (pa_cons (pv 4) pa_nil)))))))))))
      (pss_one (ps_ret (pv 1)))))), ?_⟩
    walk_at "cx"
    walk_at "rd"
    refine x_newL fun r H1 hr1 k1 e1 => ?_
    walk_at "rd"
    refine x_wh (fun m σ H' => ∃ i vs u3 u4 u5 u6, m = gs.length - i ∧ i ≤ gs.length ∧ σ = [some (.ref a), some (.ref r), some (.int ((gs.take i).flatMap wg).length), u3, u4, u5, u6] ∧ H' r = some (.lst vs) ∧ vs.length = i ∧ Paired (GAt (fun b => H b = none ∧ b ≠ r) H') vs (gs.take i) ∧ Kp F0 H H')
      ⟨_, 0, [], none, none, none, none, rfl, Nat.zero_le _, rfl, e1, rfl, .nil, k1⟩ ?_
    rintro m σ H2 ⟨i, vs, u3, u4, u5, u6, rfl, hi, rfl, er, lvs, hv, kk⟩
    have fin : ∀ H3, Kp F0 H2 H3 → i = gs.length → Q (.ref r) H3 := fun H3 k3 e => by
      refine k r H3 hr1 (kk.trans k3 fun _ z => z.elim) ⟨vs, k3.get er id, hr1, ?_⟩
      rw [e, List.take_length] at hv
      exact hv.mono fun _ _ x => (x.own fun b _ o => o.1).kp k3 fun _ _ _ _ z => z
    generalize hA : (gs.take i).flatMap wg = A
    have ha2 := kk.sqL ha id
    by_cases hlt : i < gs.length
    · obtain ⟨g, eg⟩ : ∃ g, gs[i]? = some g := ⟨_, List.getElem?_eq_getElem hlt⟩
      have gg := hgs g (List.mem_of_getElem? eg)
      generalize hT : (gs.drop (i + 1)).flatMap wg ++ (wg more).take j = Tl
      have ed : ds = A ++ (wg g ++ Tl) := by rw [eds, flat_at _ eg, hA, hT]
      have ld : ds.length = A.length + (4 + 260 * g.length) + Tl.length := by rw [ed, List.length_append, List.length_append, wg_len gg]; omega
      have := gg.n
      walk_at "rd"
      rw [List.length_map]
      refine if_dtt (by omega) ?_
      refine ⟨_, fun _ _ z => z, ?_⟩
      walk_at "rd"
      refine ⟨a, ds, A.length, 4, rfl, ha2, fun H3 k3 => ?_⟩
      rw [rd_count gg ed]
      have ha3 := k3.sqL ha2 id
      have er3 := k3.get er id
      walk_at "rd"
      refine x_augv rfl ?_
      walk_at "rd"
      refine x_ipI ?_
      walk_at "rd"
      rw [List.length_map]
      refine if_dff (by omega) ?_
      walk_at "rd"
      refine x_newL fun p H4 hp4 k4 e4 => ?_
      have ha4 := k4.sqL ha3 id
      have er4 := k4.get er3 id
      have nrp : r ≠ p := ne_of_none er3 hp4
      walk_at "rd"
      refine wfor Wk.rng (fun t σ H' => ∃ ws u5 u6, σ = [some (.ref a), some (.ref r), some (.int ((A.length + 4 + 260 * t : Nat) : Int)), some (.int g.length), some (.ref p), u5, u6] ∧ H' p = some (.lst ws) ∧ ws.length = t ∧ Paired (PAt (fun b => (H b = none ∧ b ≠ r) ∧ b ≠ p) H') ws (g.take t) ∧ Kp F0 H3 H')
        ⟨[], u5, u6, by simp, e4, rfl, .nil, k4⟩ (fun _ _ _ _ => trivial) ?_ ?_
      · rintro t x σ H5 ex ⟨ws, u5, u6, rfl, ep, lt, hw, kk5⟩
        obtain ⟨ht, rfl⟩ := rgl_at ex
        have ht' : t < g.length := by have : t < (g.length : Int).toNat := ht; omega
        obtain ⟨q, eq⟩ : ∃ q, g[t]? = some q := ⟨_, List.getElem?_eq_getElem ht'⟩
        have rc := rd_chunk gg ed eq
        have ha5 := kk5.sqL ha3 id
        walk_at "rd"
        refine ⟨a, ds, A.length + 4 + 260 * t, 4, rfl, ha5, fun H6 k6 => ?_⟩
        rw [rc.1]
        walk_at "rd"
        refine x_slL (k6.sqL ha5 id) fun l H7 hl k7 e7 => ?_
        rw [cut_mid (by omega) (by omega), show ((((A.length + 4 + 260 * t : Nat) : Int) + 4).toNat) = A.length + 4 + 260 * t + 4 by omega, show ((((A.length + 4 + 260 * t : Nat) : Int) + 4 + 256 - (((A.length + 4 + 260 * t : Nat) : Int) + 4)).toNat) = 256 by omega, rc.2] at e7
        walk_at "rd"
        refine x_newT fun tp H8 htp k8 e8 => ?_
        have k58 : Kp F0 H5 H8 := (k6.trans k7 fun _ z => z.elim).trans k8 fun _ z => z.elim
        have ep8 := k58.get ep id
        walk_at "rd"
        refine x_app ep8 (by have := gg.n; omega) fun H9 e9 k9 => ?_
        walk_at "rd"
        have k35 : Kp F0 H3 H7 := (kk5.trans k6 fun _ z => z.elim).trans k7 fun _ z => z.elim
        have hl3 : H3 l = none := kk5.free (k6.free hl id) id
        have er5 := (kk5.trans k6 fun _ z => z.elim).get er3 id
        have ep6 := k6.get ep id
        have nlr : l ≠ r := (ne_of_none er5 hl).symm
        have nlp : l ≠ p := (ne_of_none ep6 hl).symm
        refine ⟨ws ++ [.ref tp], some (.int (0 + (t : Int))), some (.int (((A.length + 4 + 260 * t : Nat) : Int) + 4)), ?_, e9, by rw [List.length_append, lt]; rfl, ?_, (kk5.trans k58 fun _ z => z.elim).trans k9 fun x z => .inr (by rw [z]; exact hp4)⟩
        · rw [show (((A.length + 4 + 260 * (t + 1) : Nat)) : Int) = ((A.length + 4 + 260 * t : Nat) : Int) + 4 + 256 by omega]; rfl
        · rw [List.take_succ, eq]
          refine Paired.snoc (hw.mono fun _ _ x => (x.kp k58 fun _ _ _ _ z => z).kp k9 fun b _ _ o z => o.2 z) ⟨tp, l, rfl, k9.tup e8, k9.get (k8.get e7 id) nlp, ⟨kk.free (k3.free hl3 id) id, nlr⟩, nlp⟩
      · rintro σ H5 ⟨ws, u5, u6, rfl, ep, lt, hw, kk5⟩
        have er5 := kk5.get er3 id
        have hlen : (rgl 0 (g.length : Int).toNat).length = g.length := by rw [rgl_len]; omega
        rw [hlen] at lt hw
        rw [hlen]
        rw [List.take_length] at hw
        walk_at "rd"
        refine x_app er5 (by omega) fun H6 e6 k6 => ?_
        have k26 : Kp (F1 r) H2 H6 := ((k3.mono fun _ z => z.elim).trans kk5 fun _ z => z.elim).trans k6 fun _ z => .inl z
        have hpH : H p = none := kk.free (k3.free hp4 id) id
        refine ⟨gs.length - (i + 1), by omega, i + 1, vs ++ [.ref p], some (.int g.length), some (.ref p), u5, u6, rfl, hlt, ?_, e6, by rw [List.length_append, lvs]; rfl, ?_, kk.trans k26 fun x z => .inr (by rw [z]; exact hr1)⟩
        · rw [takes eg, hA, List.length_append, wg_len gg, show ((A.length + (4 + 260 * g.length) : Nat) : Int) = ((A.length + 4 + 260 * g.length : Nat) : Int) by omega]
        · rw [List.take_succ, eg]
          refine Paired.snoc (hv.mono fun _ _ x => x.kp k26 fun b _ _ o z => o.2 z) ⟨p, ws, rfl, k6.get ep nrp.symm, ⟨hpH, nrp.symm⟩, hw.mono fun _ _ x => (x.own fun b _ o => o.1).kp k6 fun b _ _ o z => o.2 z⟩
    · have ei : i = gs.length := by omega
      have eA : gs.flatMap wg = A := by rw [← hA, ei, List.take_length]
      have ed : ds = A ++ (wg more).take j := by rw [eds, eA]
      have ld : ds.length = A.length + j := by rw [ed, List.length_append, List.length_take]; omega
      have lm := wg_len hm
      walk_at "rd"
      rw [List.length_map]
      by_cases h4 : 4 ≤ j
      · refine if_dtt (by omega) ?_
        refine ⟨_, fun _ _ z => z, ?_⟩
        walk_at "rd"
        refine ⟨a, ds, A.length, 4, rfl, ha2, fun H3 k3 => ?_⟩
        rw [rd_part hm ed h4]
        have ha3 := k3.sqL ha2 id
        walk_at "rd"
        refine x_augv rfl ?_
        walk_at "rd"
        refine x_ipI ?_
        walk_at "rd"
        rw [List.length_map]
        refine if_dtt (by omega) ?_
        walk_at "rd"
        exact fin H3 k3 ei
      · refine if_dff (by omega) ?_
        walk_at "rd"
        exact fin H2 (Kp.refl _) ei
end
/-! ### the device -/
structure DevS where
  pages : List (Int × List Int)
  writes : List (Int × List Int)
  log : List Int
  steps : List (Option Int)
  done : Int
  most : Option Int
def oV : Option Int → V
  | none => .non
  | some i => .int i
def aget (l : List (Int × List Int)) (n : Int) : Option (List Int) := (l.find? fun q => decide (q.1 = n)).map (·.2)
def aput (l : List (Int × List Int)) (n : Int) (v : List Int) : List (Int × List Int) :=
  if (l.any fun q => decide (q.1 = n)) = true then l.map (fun q => if q.1 = n then (q.1, v) else q) else l ++ [(n, v)]
def zeros : List Int := List.replicate 256 0
/-- a page's durable content -/
def dpg (d : DevS) (n : Int) : List Int := (aget d.pages n).getD zeros
/-- a page's content behind all pending writes -/
def cpg (d : DevS) (n : Int) : List Int := match d.writes.reverse.find? fun q => decide (q.1 = n) with
  | some q => q.2
  | none => dpg d n
def lstep (l : List Int) : Option Int → List Int
  | none => []
  | some b => l ++ [b]
def clog (d : DevS) : List Int := d.steps.foldl lstep d.log
def can (d : DevS) : Bool := match d.most with
  | none => true
  | some m => decide (d.done < m)
/-- one step of power, then f -/
def pw (d : DevS) (f : DevS → DevS) : DevS × Bool := if can d = true then (f { d with done := d.done + 1 }, true) else (d, false)
def dWrite (n : Int) (ds : List Int) (d : DevS) : DevS × Bool := pw d fun d => { d with writes := d.writes ++ [(n, ds)] }
def dSyncP (d : DevS) : DevS × Bool := pw d fun d => { d with pages := d.writes.foldl (fun l q => aput l q.1 q.2) d.pages, writes := [] }
def dByte (b : Option Int) (d : DevS) : DevS × Bool := pw d fun d => { d with steps := d.steps ++ [b] }
def dApp : List Int → DevS → DevS × Bool
  | [], d => (d, true)
  | b :: r, d => if (dByte (some b) d).2 = true then dApp r (dByte (some b) d).1 else (d, false)
def dSyncL (d : DevS) : DevS × Bool := pw d fun d => { d with log := clog d, steps := [] }
def dLimit (s : Option Int) (d : DevS) : DevS := { d with most := s.map fun s => d.done + s }
def dFate (pages : List (Int × List Int)) (q : (Int × List Int) × Int) : List (Int × List Int) :=
  if q.2 = 1 then aput pages q.1.1 q.1.2 else if q.2 = 2 then aput pages q.1.1 (q.1.2.take 128 ++ ((aget pages q.1.1).getD zeros).drop 128) else pages
def dCrash (fates : List Int) (kept : Nat) (d : DevS) : DevS :=
  { pages := (d.writes.zip fates).foldl dFate d.pages, writes := [], log := (d.steps.take kept).foldl lstep d.log, steps := [], done := d.done, most := none }
/-- a list of the owned ones that never changes -/
def Im (H : Hp) (O G : Addr → Prop) (a : Addr) (ds : List Int) : Prop := H a = some (.lst (ds.map V.int)) ∧ O a ∧ ¬ G a
def RPg (H : Hp) (O G : Addr → Prop) (p : Key × V) (q : Int × List Int) : Prop := p.1 = .inl q.1 ∧ ∃ a, p.2 = .ref a ∧ Im H O G a q.2
def RWr (H : Hp) (O G : Addr → Prop) (v : V) (q : Int × List Int) : Prop := ∃ t a, v = .ref t ∧ H t = some (.tup [.int q.1, .ref a]) ∧ Im H O G a q.2
theorem Im.kp {F O G : Addr → Prop} {H H' : Hp} {a : Addr} {ds : List Int} (s : Kp F H H') (h : Im H O G a ds) (n : ∀ b, F b → G b) : Im H' O G a ds := ⟨s.get h.1 fun z => h.2.2 (n _ z), h.2⟩
theorem RPg.im {H H' : Hp} {O O' G G' : Addr → Prop} {p : Key × V} {q : Int × List Int} (f : ∀ a ds, Im H O G a ds → Im H' O' G' a ds) (h : RPg H O G p q) : RPg H' O' G' p q := by
  obtain ⟨e, a, ev, i⟩ := h
  exact ⟨e, a, ev, f _ _ i⟩
theorem RWr.im {F : Addr → Prop} {H H' : Hp} {O O' G G' : Addr → Prop} {v : V} {q : Int × List Int} (s : Kp F H H') (f : ∀ a ds, Im H O G a ds → Im H' O' G' a ds) (h : RWr H O G v q) : RWr H' O' G' v q := by
  obtain ⟨t, a, ev, ht, i⟩ := h
  exact ⟨t, a, ev, s.tup ht, f _ _ i⟩
theorem RPg.kp {F O G : Addr → Prop} {H H' : Hp} {p : Key × V} {q : Int × List Int} (s : Kp F H H') (n : ∀ b, F b → G b) (h : RPg H O G p q) : RPg H' O G p q := h.im fun _ _ i => i.kp s n
theorem RWr.kp {F O G : Addr → Prop} {H H' : Hp} {v : V} {q : Int × List Int} (s : Kp F H H') (n : ∀ b, F b → G b) (h : RWr H O G v q) : RWr H' O G v q := h.im s fun _ _ i => i.kp s n
def DevG (p a1 a2 a4 : Addr) : Addr → Prop := fun b => b = p ∨ b = a1 ∨ b = a2 ∨ b = a4
structure DevA (c : Cl) (O : Addr → Prop) (H : Hp) (p dx a1 a2 a3 a4 : Addr) (kvs : List (Key × V)) (ws : List V) (d : DevS) : Prop where
  o : H p = some (.ins c.Device dx (F_Device (.ref a1) (.ref a2) (.ref a3) (.ref a4) (.int d.done) (oV d.most)))
  pg : H a1 = some (.dK kvs)
  pr : Paired (RPg H O (DevG p a1 a2 a4)) kvs d.pages
  wr : H a2 = some (.lst ws)
  wp : Paired (RWr H O (DevG p a1 a2 a4)) ws d.writes
  lg : Im H O (DevG p a1 a2 a4) a3 d.log
  st : H a4 = some (.lst (d.steps.map oV))
  ne : a2 ≠ a4
  ow : ∀ b, DevG p a1 a2 a4 b → O b
/-- a device at p that owns O -/
def DevAt (c : Cl) (H : Hp) (p : Addr) (O : Addr → Prop) (d : DevS) : Prop := (∃ dx a1 a2 a3 a4 kvs ws, DevA c O H p dx a1 a2 a3 a4 kvs ws d) ∧ ∀ b, O b → ∃ o, H b = some o
/-- what was owned or is new, and stands -/
def nO (O : Addr → Prop) (H H' : Hp) : Addr → Prop := fun x => (O x ∨ H x = none) ∧ ∃ o, H' x = some o
/-- a state with its objects told goes through a step that leaves them -/
theorem DevA.im {c : Cl} {F O O' : Addr → Prop} {H H' : Hp} {p dx a1 a2 a3 a4 : Addr} {kvs : List (Key × V)} {ws : List V} {d : DevS} (s : Kp F H H') (h : DevA c O H p dx a1 a2 a3 a4 kvs ws d) (n : ∀ b, F b → ¬ DevG p a1 a2 a4 b)
    (f : ∀ a ds, Im H O (DevG p a1 a2 a4) a ds → Im H' O' (DevG p a1 a2 a4) a ds) (g : ∀ b, DevG p a1 a2 a4 b → O' b) : DevA c O' H' p dx a1 a2 a3 a4 kvs ws d where
  o := s.get h.o fun z => n _ z (.inl rfl)
  pg := s.get h.pg fun z => n _ z (.inr (.inl rfl))
  pr := Paired.mono (fun _ _ r => r.im f) h.pr
  wr := s.get h.wr fun z => n _ z (.inr (.inr (.inl rfl)))
  wp := Paired.mono (fun _ _ r => r.im s f) h.wp
  lg := f _ _ h.lg
  st := s.get h.st fun z => n _ z (.inr (.inr (.inr rfl)))
  ne := h.ne
  ow := g
theorem DevA.same {c : Cl} {O : Addr → Prop} {H H' : Hp} {p dx a1 a2 a3 a4 : Addr} {kvs : List (Key × V)} {ws : List V} {d : DevS} (s : Kp F0 H H') (h : DevA c O H p dx a1 a2 a3 a4 kvs ws d) : DevA c O H' p dx a1 a2 a3 a4 kvs ws d := h.im s (fun _ z => z.elim) (fun _ _ i => i.kp s fun _ z => z.elim) h.ow
theorem DevA.own {c : Cl} {O O' : Addr → Prop} {H : Hp} {p dx a1 a2 a3 a4 : Addr} {kvs : List (Key × V)} {ws : List V} {d : DevS} (h : DevA c O H p dx a1 a2 a3 a4 kvs ws d) (n : ∀ b, O b → O' b) : DevA c O' H p dx a1 a2 a3 a4 kvs ws d :=
  h.im (Kp.refl (F := F0) _) (fun _ z => z.elim) (fun _ _ i => ⟨i.1, n _ i.2.1, i.2.2⟩) fun b z => n _ (h.ow b z)
theorem DevAt.off {c : Cl} {F O : Addr → Prop} {H H' : Hp} {p : Addr} {d : DevS} (s : Kp F H H') (h : DevAt c H p O d) (n : ∀ b, F b → ¬ O b) : DevAt c H' p O d := by
  obtain ⟨⟨dx, a1, a2, a3, a4, kvs, ws, D⟩, t⟩ := h
  refine ⟨⟨dx, a1, a2, a3, a4, kvs, ws, D.im s (fun b z g => n b z (D.ow b g)) (fun a ds i => ⟨s.get i.1 fun z => n _ z i.2.1, i.2⟩) D.ow⟩, fun b z => ?_⟩
  obtain ⟨o, ho⟩ := t b z
  exact ⟨o, s.get ho fun y => n b y z⟩
theorem DevAt.same {c : Cl} {H H' : Hp} {p : Addr} {O : Addr → Prop} {d : DevS} (s : Kp F0 H H') (h : DevAt c H p O d) : DevAt c H' p O d := h.off s fun _ z => z.elim
theorem DevAt.fresh {c : Cl} {H : Hp} {p b : Addr} {O : Addr → Prop} {d : DevS} (h : DevAt c H p O d) (hb : H b = none) : ¬ O b := fun z => by
  obtain ⟨o, ho⟩ := h.2 b z
  rw [hb] at ho; cases ho
section
variable {c : Cl} {O : Addr → Prop} {H : Hp} {p dx a1 a2 a3 a4 : Addr} {kvs : List (Key × V)} {ws : List V} {d : DevS}
theorem DevA.n12 (h : DevA c O H p dx a1 a2 a3 a4 kvs ws d) : a1 ≠ a2 := ne_of h.pg h.wr (by intro z; cases z)
theorem DevA.n14 (h : DevA c O H p dx a1 a2 a3 a4 kvs ws d) : a1 ≠ a4 := ne_of h.pg h.st (by intro z; cases z)
theorem DevA.np1 (h : DevA c O H p dx a1 a2 a3 a4 kvs ws d) : p ≠ a1 := ne_of h.o h.pg (by intro z; cases z)
theorem DevA.np2 (h : DevA c O H p dx a1 a2 a3 a4 kvs ws d) : p ≠ a2 := ne_of h.o h.wr (by intro z; cases z)
theorem DevA.np4 (h : DevA c O H p dx a1 a2 a3 a4 kvs ws d) : p ≠ a4 := ne_of h.o h.st (by intro z; cases z)
end
theorem DevAt.opn {c : Cl} {H : Hp} {p : Addr} {O0 : Addr → Prop} {d : DevS} (h : DevAt c H p O0 d) : ∃ (O : Addr → Prop) (dx a1 a2 a3 a4 : Addr) (kvs : List (Key × V)) (ws : List V),
    O = (fun x => O0 x ∨ H x = none) ∧ DevA c O H p dx a1 a2 a3 a4 kvs ws d ∧ ∀ b, DevG p a1 a2 a4 b → O0 b := by
  obtain ⟨⟨dx, a1, a2, a3, a4, kvs, ws, D⟩, _⟩ := h
  exact ⟨_, dx, a1, a2, a3, a4, kvs, ws, rfl, D.own fun _ z => .inl z, D.ow⟩
theorem DevA.clo {c : Cl} {O O0 : Addr → Prop} {H H' : Hp} {p dx a1 a2 a3 a4 : Addr} {kvs : List (Key × V)} {ws : List V} {d : DevS} (D : DevA c O H' p dx a1 a2 a3 a4 kvs ws d) (e : O = fun x => O0 x ∨ H x = none) : DevAt c H' p (nO O0 H H') d := by
  subst e
  refine ⟨⟨dx, a1, a2, a3, a4, kvs, ws, D.im (Kp.refl (F := F0) _) (fun _ z => z.elim) (fun a ds i => ⟨i.1, ⟨i.2.1, _, i.1⟩, i.2.2⟩) fun b z => ⟨D.ow b z, ?_⟩⟩, fun b z => z.2⟩
  rcases z with rfl | rfl | rfl | rfl
  · exact ⟨_, D.o⟩
  · exact ⟨_, D.pg⟩
  · exact ⟨_, D.wr⟩
  · exact ⟨_, D.st⟩
theorem Stp.nO {G O0 : Addr → Prop} {H H' : Hp} (k : Kp G H H') (g : ∀ b, G b → O0 b) : Stp O0 (nO O0 H H') H H' := ⟨k.mono fun b z => .inl (g b z), fun _ z => z.1⟩
section
variable {P : Program} {w : World} {K : PySem.W.Frag} {mg : Str → Option Value} {base : Heap} {c : Cl}
def sp_Device_init (c : Cl) : Sp := fun vs H Q _ => ∃ p dx, vs = [.ref p] ∧ H p = some (.ins c.Device dx []) ∧ ∀ H' O, DevAt c H' p O ⟨[], [], [], [], 0, none⟩ → Kp (F1 p) H H' → (∀ b, O b → b = p ∨ H b = none) → Q .non H'
theorem mk_Device (T : Txt K mg c) : GC P w K mg base CX0 1 "Device" c.Device (sp_Device_init c) := by
  obtain ⟨f, fd, F, gf, gi⟩ := T.f_Device___init__
  have tc := T.cl_Device; have t1 := T.n_Device_pages; have t2 := T.n_Device_page_writes; have t3 := T.n_Device_durable_log; have t4 := T.n_Device_log_steps; have t5 := T.n_Device_done; have t6 := T.n_Device_most
  refine ⟨f, fd, ["self"], F.ok sc_Device___init__ ?_ (fun cdv A outer s H vs Q E hr h => ?_), ⟨T.mk_Device.1, gf, gi, T.mk_Device.2⟩, T.mg_Device, (F.binds (ps := ["self"]) fun _ _ _ _ _ _ us hl => match us, hl with | [_], _ => rfl)⟩
  · rintro vs H Q E ⟨_, _, rfl, _⟩
    rfl
  · obtain ⟨p, dx, rfl, hp, k⟩ := h
    refine ⟨_, (pss_cons (ps_fld (pv 0) pe_dnewK rfl)
      (pss_cons (ps_fld (pv 0) (pe_lst pa_nil) rfl)
      (pss_cons (ps_fld (pv 0) (pe_lst pa_nil) rfl)
      (pss_cons (ps_fld (pv 0) (pe_lst pa_nil) rfl)
      (pss_cons (ps_fld (pv 0) pe_int rfl)
      (pss_one (ps_fld (pv 0) pe_non rfl))))))), ?_⟩
    walk_at "cx"
    walk_at "rd"
    refine x_dnew fun a1 H1 ha1 k1 h1 => ?_
    have n1 : p ≠ a1 := ne_of_none hp ha1
    walk_at "rd"
    intro H2 p2 k2
    have h1' := k2.get h1 n1.symm
    walk_at "rd"
    refine x_newL fun a2 H3 ha2 k3 h2 => ?_
    have n2 : p ≠ a2 := ne_of_none p2 ha2
    have n12 : a1 ≠ a2 := ne_of_none h1' ha2
    walk_at "rd"
    intro H4 p4 k4
    walk_at "rd"
    refine x_newL fun a3 H5 ha3 k5 h3 => ?_
    have n3 : p ≠ a3 := ne_of_none p4 ha3
    have h1d := k4.get (k3.get h1' id) n1.symm
    have h2d := k4.get h2 n2.symm
    have n13 : a1 ≠ a3 := ne_of_none h1d ha3
    have n23 : a2 ≠ a3 := ne_of_none h2d ha3
    walk_at "rd"
    intro H6 p6 k6
    walk_at "rd"
    refine x_newL fun a4 H7 ha4 k7 h4 => ?_
    have n4 : p ≠ a4 := ne_of_none p6 ha4
    have h1f := k6.get (k5.get h1d id) n1.symm
    have h2f := k6.get (k5.get h2d id) n2.symm
    have h3f := k6.get h3 n3.symm
    have n24 : a2 ≠ a4 := ne_of_none h2f ha4
    have n34 : a3 ≠ a4 := ne_of_none h3f ha4
    walk_at "rd"
    intro H8 p8 k8
    walk_at "rd"
    intro H9 p9 k9
    walk_at "rd"
    intro H10 p10 k10
    have kk : ∀ {b o}, H7 b = some o → p ≠ b → H10 b = some o := fun hb n => k10.get (k9.get (k8.get hb n.symm) n.symm) n.symm
    have f2 : H a2 = none := k1.free (k2.free ha2 n2.symm) id
    have f3 : H a3 = none := k1.free (k2.free (k3.free (k4.free ha3 n3.symm) id) n3.symm) id
    have f4 : H a4 = none := k1.free (k2.free (k3.free (k4.free (k5.free (k6.free ha4 n4.symm) id) n4.symm) id) n4.symm) id
    have D : DevA c (fun x => F1 p x ∨ H x = none) H10 p dx a1 a2 a3 a4 [] [] ⟨[], [], [], [], 0, none⟩ := ⟨p10, kk (k7.get h1f id) n1, .nil, kk (k7.get h2f id) n2, .nil, ⟨kk (k7.get h3f id) n3, .inr f3, by
      rintro (z | z | z | z)
      · exact n3 z.symm
      · exact n13 z.symm
      · exact n23 z.symm
      · exact n34 z⟩, kk h4 n4, n24, by
      rintro b (z | z | z | z)
      · exact .inl z
      · exact .inr (by rw [z]; exact ha1)
      · exact .inr (by rw [z]; exact f2)
      · exact .inr (by rw [z]; exact f4)⟩
    refine k H10 _ (D.clo rfl) ?_ fun b z => z.1
    · have e0 : ∀ b, F0 b → F1 p b ∨ H b = none := fun _ z => z.elim
      have e1 : ∀ b, F1 p b → F1 p b ∨ H b = none := fun _ z => .inl z
      exact (((((((((k1.mono e0).trans k2 e1).trans k3 e0).trans k4 e1).trans k5 e0).trans k6 e1).trans k7 e0).trans k8 e1).trans k9 e1).trans k10 e1
theorem DevA.mk' {O : Addr → Prop} {H H' : Hp} {p dx a1 a2 a3 a4 : Addr} {kvs : List (Key × V)} {ws : List V} {d : DevS} {n : Int} {m : Option Int} (h : DevA c O H p dx a1 a2 a3 a4 kvs ws d) (s : Kp (F1 p) H H')
    (o : H' p = some (.ins c.Device dx (F_Device (.ref a1) (.ref a2) (.ref a3) (.ref a4) (.int n) (oV m)))) : DevA c O H' p dx a1 a2 a3 a4 kvs ws { d with done := n, most := m } := by
  have q : ∀ a ds, Im H O (DevG p a1 a2 a4) a ds → Im H' O (DevG p a1 a2 a4) a ds := fun a ds i => i.kp s fun b z => .inl z
  exact ⟨o, s.get h.pg h.np1.symm, Paired.mono (fun _ _ ⟨e, a, ev, i⟩ => ⟨e, a, ev, q _ _ i⟩) h.pr, s.get h.wr h.np2.symm, Paired.mono (fun _ _ ⟨t, a, ev, ht, i⟩ => ⟨t, a, ev, s.tup ht, q _ _ i⟩) h.wp, q _ _ h.lg, s.get h.st h.np4.symm, h.ne, h.ow⟩
def sp_Device_step (c : Cl) : Sp := fun vs H Q E => ∃ O p dx a1 a2 a3 a4 kvs ws d, vs = [.ref p] ∧ DevA c O H p dx a1 a2 a3 a4 kvs ws d ∧
  (can d = true → ∀ H', DevA c O H' p dx a1 a2 a3 a4 kvs ws { d with done := d.done + 1 } → Kp (F1 p) H H' → Q .non H') ∧ (can d = false → E (.ref c.PowerCut) none H)
theorem ok_Device_step (T : Txt K mg c) : GM P w K mg base (L2N.CX P w) 1 c.Device "step" (sp_Device_step c) := by
  obtain ⟨f, fd, F, gf, gi⟩ := T.f_Device_step
  have tc := T.cl_Device; have t5 := T.n_Device_done; have t6 := T.n_Device_most
  refine ⟨f, fd, ["self"], okXN F sc_Device_step ?_ (fun cdv A outer s H vs Q E hr h => ?_), ⟨gf, gi, F.kp⟩, (F.binds (ps := ["self"]) fun _ _ _ _ _ _ us hl => match us, hl with | [_], _ => rfl)⟩
  · rintro vs H Q E ⟨_, _, _, _, _, _, _, _, _, _, rfl, _⟩
    rfl
  · obtain ⟨O, p, dx, a1, a2, a3, a4, kvs, ws, d, rfl, D, k, e⟩ := h
    refine ⟨_, (pss_cons (ps_if (PW.pt (pw_and (pt_cmpR o_notN (pe_fldK rfl (pv 0)) pe_non (nomark _)) (pw_and1 (pt_cmpR op_ge (pe_fldK rfl (pv 0)) (pe_fldK rfl (pv 0)) (nomark _))))) (pss_one (L2N.ps_raise rfl (L2N.takes_of (E := E) rfl rfl rfl rfl) (pmk_XN T.ex_PowerCut))) pss_nil)
      (pss_one (ps_fldaug (pv 0) pe_int in_add))), ?_⟩
    walk_at "cx"
    cases hm : d.most with
    | none =>
      have ho : H p = some (.ins c.Device dx (F_Device (.ref a1) (.ref a2) (.ref a3) (.ref a4) (.int d.done) .non)) := by have q := D.o; rw [hm] at q; exact q
      walk_at "rd"
      intro H1 p1 k1
      have q := D.mk' (n := d.done + 1) (m := d.most) k1 (by rw [hm]; exact p1)
      exact k (by unfold can; rw [hm]) H1 q k1
    | some m =>
      have ho : H p = some (.ins c.Device dx (F_Device (.ref a1) (.ref a2) (.ref a3) (.ref a4) (.int d.done) (.int m))) := by have q := D.o; rw [hm] at q; exact q
      walk_at "rd"
      refine ite_dec (fun z => ?_) fun z => ?_
      · refine e ?_
        unfold can; rw [hm]; exact decide_eq_false (by omega)
      · walk_at "rd"
        intro H1 p1 k1
        have q := D.mk' (n := d.done + 1) (m := d.most) k1 (by rw [hm]; exact p1)
        exact k (by unfold can; rw [hm]; exact decide_eq_true (by omega)) H1 q k1
/-- what a raising method of the device promises: op says what it leaves, and whether the power lasts -/
def spD (c : Cl) (H : Hp) (p : Addr) (O : Addr → Prop) (r : DevS × Bool) (Q : Hp → Prop) (E : XK) : Prop :=
  ∀ H' O', DevAt c H' p O' r.1 → Stp O O' H H' → if r.2 = true then Q H' else E (.ref c.PowerCut) none H'
theorem DevG.sub {p a1 a2 a4 : Addr} : ∀ b, F1 p b → DevG p a1 a2 a4 b := fun b z => .inl z
/-- no page is longer than a page -/
def Sz (l : List (Int × List Int)) : Prop := ∀ q ∈ l, q.2.length ≤ 256
theorem aput_sz {l : List (Int × List Int)} {n : Int} {ds : List Int} (h : Sz l) (hd : ds.length ≤ 256) : Sz (aput l n ds) := by
  intro q hq
  unfold aput at hq
  split at hq
  · obtain ⟨r, hr, rfl⟩ := List.mem_map.mp hq
    split
    · exact hd
    · exact h r hr
  · rcases List.mem_append.mp hq with hq | hq
    · exact h q hq
    · rw [List.mem_singleton.mp hq]; exact hd
theorem aget_sz {l : List (Int × List Int)} {n : Int} (h : Sz l) : ((aget l n).getD zeros).length ≤ 256 := by
  unfold aget
  cases e : l.find? fun q => decide (q.1 = n) with
  | none => show zeros.length ≤ 256; unfold zeros; rw [List.length_replicate]; exact Nat.le_refl _
  | some q => exact h q (List.mem_of_find?_eq_some e)
theorem puts_sz : ∀ {ws l : List (Int × List Int)}, Sz l → Sz ws → Sz (ws.foldl (fun l q => aput l q.1 q.2) l)
  | [], _, h, _ => h
  | q :: ws, l, h, hw => puts_sz (ws := ws) (aput_sz h (hw q (by simp))) fun r hr => hw r (List.mem_cons_of_mem _ hr)
theorem dFate_sz {l : List (Int × List Int)} {q : (Int × List Int) × Int} (h : Sz l) (hq : q.1.2.length ≤ 256) : Sz (dFate l q) := by
  unfold dFate
  split
  · exact aput_sz h hq
  · split
    · refine aput_sz h ?_
      have := aget_sz (n := q.1.1) h
      rw [List.length_append, List.length_take, List.length_drop]; omega
    · exact h
theorem dFates_sz : ∀ {ws : List ((Int × List Int) × Int)} {l : List (Int × List Int)}, Sz l → (∀ q ∈ ws, q.1.2.length ≤ 256) → Sz (ws.foldl dFate l)
  | [], _, h, _ => h
  | q :: ws, l, h, hw => dFates_sz (ws := ws) (dFate_sz h (hw q (by simp))) fun r hr => hw r (List.mem_cons_of_mem _ hr)
/-- what a device's state may hold at most -/
def Sml (d : DevS) : Prop := d.writes.length ≤ 1000000 ∧ d.pages.length + d.writes.length ≤ 2000000 ∧ d.log.length + d.steps.length ≤ 8000000 ∧ Sz d.pages ∧ Sz d.writes
theorem F1.g {p a1 a2 a4 : Addr} {H : Hp} : ∀ b, F1 p b → DevG p a1 a2 a4 b ∨ H b = none := fun b z => .inl (.inl z)
theorem spD.yes {H : Hp} {p : Addr} {O : Addr → Prop} {d : DevS} {fn : DevS → DevS} {Q : Hp → Prop} {E : XK} (k : spD c H p O (pw d fn) Q E) (hc : can d = true) {H' : Hp} {O' : Addr → Prop} (D : DevAt c H' p O' (fn { d with done := d.done + 1 })) (s : Stp O O' H H') : Q H' := by
  unfold spD pw at k
  rw [if_pos hc] at k
  have q := k H' O' D s
  rw [if_pos rfl] at q
  exact q
theorem spD.no {H : Hp} {p : Addr} {O : Addr → Prop} {d : DevS} {fn : DevS → DevS} {Q : Hp → Prop} {E : XK} (k : spD c H p O (pw d fn) Q E) (hc : can d = false) (D : DevAt c H p O d) : E (.ref c.PowerCut) none H := by
  unfold spD pw at k
  rw [if_neg (by rw [hc]; exact Bool.false_ne_true)] at k
  have q := k H O D (Stp.refl _ _)
  rw [if_neg (by exact Bool.false_ne_true)] at q
  exact q
/-- a fresh object is none of the footprint -/
theorem DevA.fresh {O : Addr → Prop} {H : Hp} {p dx a1 a2 a3 a4 b : Addr} {kvs : List (Key × V)} {ws : List V} {d : DevS} (D : DevA c O H p dx a1 a2 a3 a4 kvs ws d) (hb : H b = none) : ¬ DevG p a1 a2 a4 b := by
  rintro (z | z | z | z)
  · exact ne_of_none D.o hb z.symm
  · exact ne_of_none D.pg hb z.symm
  · exact ne_of_none D.wr hb z.symm
  · exact ne_of_none D.st hb z.symm
theorem DevA.trk {O : Addr → Prop} {H : Hp} {p dx a1 a2 a3 a4 b : Addr} {kvs : List (Key × V)} {ws : List V} {d : DevS} (D : DevA c O H p dx a1 a2 a3 a4 kvs ws d) (g : DevG p a1 a2 a4 b) : ∃ o, H b = some o := by
  rcases g with rfl | rfl | rfl | rfl
  · exact ⟨_, D.o⟩
  · exact ⟨_, D.pg⟩
  · exact ⟨_, D.wr⟩
  · exact ⟨_, D.st⟩
def sp_Device_write_page (c : Cl) (K : PySem.W.Frag) : Sp := fun vs H Q E => ∃ p O d n l ds, vs = [.ref p, .int n, .ref l] ∧ DevAt c H p O d ∧ SqL K H l (ds.map V.int) ∧ ¬ O l ∧ Sml d ∧ spD c H p O (dWrite n ds d) (Q .non) E
theorem ok_Device_write_page (T : Txt K mg c) : GM P w K mg base (L2N.CX P w) 2 c.Device "write_page" (sp_Device_write_page c K) := by
  obtain ⟨f, fd, F, gf, gi⟩ := T.f_Device_write_page
  have tc_Device := T.cl_Device; have tn_Device_pages := T.n_Device_pages; have tn_Device_page_writes := T.n_Device_page_writes; have tn_Device_durable_log := T.n_Device_durable_log; have tn_Device_log_steps := T.n_Device_log_steps; have tn_Device_done := T.n_Device_done; have tn_Device_most := T.n_Device_most
  refine ⟨f, fd, ["self", "number", "data"], okXN F sc_Device_write_page ?_ (fun cdv A outer s H vs Q E hr h => ?_), ⟨gf, gi, F.kp⟩, (F.binds (ps := ["self", "number", "data"]) fun _ _ _ _ _ _ us hl => match us, hl with | [_, _, _], _ => rfl)⟩
  · rintro vs H Q E ⟨_, _, _, _, _, _, rfl, _⟩
    rfl
  · obtain ⟨p, O0, d, n, l, ds, rfl, hD, hl, nl, sm, k⟩ := h
    obtain ⟨O, dx, a1, a2, a3, a4, kvs, ws, eO, D, og⟩ := hD.opn
    have fr : ∀ {x}, H x = none → O x := fun h => by rw [eO]; exact .inr h
    have ho := D.o
    refine ⟨_, (pss_cons (ps_expr (pe_gm0 T.cl_Device (ok_Device_step T) (pv 0) (hr.mono (by decide)) (passEN (E := E) rfl rfl rfl rfl)))
      (pss_one (ps_expr (pe_kBM rfl (pe_bm PySem.F.plainAttrs_list PySem.F.slot_list_append PySem.F.type_list_append mt_append (pe_fldK rfl (pv 0)) (pa_cons (pe_tup (pa_cons (pv 1) (pa_cons (pe_callTy (r := rLstQ K) c_list (by rfl) T.z_list (by decide +kernel) (pa_cons (pv 2) pa_nil)) pa_nil))) pa_nil)))))), ?_⟩
    walk_at "cx"
    walk_at "rd"
    refine ⟨O, p, dx, a1, a2, a3, a4, kvs, ws, d, rfl, D, fun hc H1 D1 k1 => ?_, fun hc => k.no hc hD⟩
    have ho1 := D1.o
    have hw1 := D1.wr
    walk_at "rd"
    refine x_lstL (k1.sqL hl fun z => nl (og _ (.inl z))) fun b H2 hb k2 hb2 => ?_
    walk_at "rd"
    refine x_newT fun t H3 ht k3 ht3 => ?_
    walk_at "rd"
    have D3 := (D1.same k2).same k3
    have lw : ws.length = d.writes.length := D.wp.length
    refine x_app D3.wr (by have := sm.1; omega) fun H4 hw4 k4 => ?_
    have nb := D1.fresh hb
    have sub : ∀ x, F1 a2 x → DevG p a1 a2 a4 x := fun x z => .inr (.inr (.inl z))
    have D4 : DevA c O H4 p dx a1 a2 a3 a4 kvs (ws ++ [.ref t]) { d with writes := d.writes ++ [(n, ds)], done := d.done + 1 } :=
      ⟨k4.get D3.o D3.np2, k4.get D3.pg D3.n12, Paired.mono (fun _ _ r => r.kp k4 sub) D3.pr, hw4, (Paired.mono (fun _ _ r => r.kp k4 sub) D3.wp).snoc ⟨t, b, rfl, k4.tup ht3, k4.get (k3.get hb2 id) fun z => nb (sub b z), fr (k1.free hb fun z => nb (.inl z)), nb⟩, D3.lg.kp k4 sub, k4.get D3.st D3.ne.symm, D3.ne, D3.ow⟩
    exact k.yes hc (D4.clo eO) (Stp.nO (G := DevG p a1 a2 a4) (((k1.mono F1.g).trans k2 fun _ z => z.elim).trans k3 (fun _ z => z.elim) |>.trans k4 fun b z => .inl (.inr (.inr (.inl z)))) og)
theorem any_pr {R : Key × V → Int × List Int → Prop} (hR : ∀ p q, R p q → p.1 = .inl q.1) (n : Int) : ∀ {kvs : List (Key × V)} {l : List (Int × List Int)}, Paired R kvs l → (kvs.any fun kv => decide (kv.1 = .inl n)) = l.any fun q => decide (q.1 = n)
  | _, _, .nil => rfl
  | _, _, .cons (a := p) (b := q) h t => by
    rw [List.any_cons, List.any_cons, any_pr hR n t, hR p q h]
    congr 1
    exact decide_eq_decide.mpr ⟨fun e => Sum.inl.inj e, fun e => by rw [e]⟩
theorem map_pr {R : Key × V → Int × List Int → Prop} (hR : ∀ p q, R p q → p.1 = .inl q.1) {n : Int} {v : V} {ds : List Int} (h : R (.inl n, v) (n, ds)) : ∀ {kvs : List (Key × V)} {l : List (Int × List Int)}, Paired R kvs l →
    Paired R (kvs.map fun kv => if kv.1 = .inl n then (kv.1, v) else kv) (l.map fun q => if q.1 = n then (q.1, ds) else q)
  | _, _, .nil => .nil
  | _, _, .cons (a := p) (b := q) r t => by
    refine .cons ?_ (map_pr hR h t)
    have e := hR p q r
    show R (if p.1 = .inl n then (p.1, v) else p) (if q.1 = n then (q.1, ds) else q)
    by_cases z : q.1 = n
    · rw [if_pos (by rw [e, z]), if_pos z, e, z]; exact h
    · rw [if_neg (by rw [e]; exact fun w => z (Sum.inl.inj w)), if_neg z]; exact r
theorem put_pr {R : Key × V → Int × List Int → Prop} (hR : ∀ p q, R p q → p.1 = .inl q.1) {n : Int} {v : V} {ds : List Int} (h : R (.inl n, v) (n, ds)) {kvs : List (Key × V)} {l : List (Int × List Int)} (t : Paired R kvs l) : Paired R (putK kvs (.inl n) v) (aput l n ds) := by
  unfold putK aput
  rw [any_pr hR n t]
  split
  · exact map_pr hR h t
  · exact t.snoc h
theorem get_pr {R : Key × V → Int × List Int → Prop} (hR : ∀ p q, R p q → p.1 = .inl q.1) (n : Int) : ∀ {kvs : List (Key × V)} {l : List (Int × List Int)}, Paired R kvs l →
    (valV kvs (.inl n) = none ∧ aget l n = none) ∨ ∃ v ds, valV kvs (.inl n) = some v ∧ aget l n = some ds ∧ R (.inl n, v) (n, ds)
  | _, _, .nil => .inl ⟨rfl, rfl⟩
  | _, _, .cons (a := p) (b := q) (l₁ := kvs) (l₂ := l) r t => by
    have e := hR p q r
    by_cases z : q.1 = n
    · refine .inr ⟨p.2, q.2, valV_pos (by rw [e, z]), ?_, ?_⟩
      · unfold aget
        rw [List.find?_cons_of_pos (by exact decide_eq_true z)]; rfl
      · have : p = (.inl n, p.2) := by rw [← z, ← e]
        have e2 : q = (n, q.2) := by rw [← z]
        rw [← this, ← e2]; exact r
    · have h1 : valV (p :: kvs) (.inl n) = valV kvs (.inl n) := valV_neg (by rw [e]; exact fun w => z (Sum.inl.inj w))
      have h2 : aget (q :: l) n = aget l n := by
        unfold aget
        rw [List.find?_cons_of_neg (by simpa using z)]
      rw [h1, h2]
      exact get_pr hR n t
theorem RPg.key {H : Hp} {O G : Addr → Prop} : ∀ p q, RPg H O G p q → p.1 = .inl q.1 := fun _ _ h => h.1
theorem aput_len (l : List (Int × List Int)) (n : Int) (v : List Int) : (aput l n v).length ≤ l.length + 1 := by
  unfold aput; split
  · rw [List.length_map]; omega
  · rw [List.length_append]; exact Nat.le_refl _
theorem puts_len : ∀ (l : List (Int × List Int)) (pages : List (Int × List Int)), (l.foldl (fun l q => aput l q.1 q.2) pages).length ≤ pages.length + l.length
  | [], _ => Nat.le_refl _
  | q :: l, pages => by
    have h1 := puts_len l (aput pages q.1 q.2)
    have h2 := aput_len pages q.1 q.2
    show (l.foldl (fun l q => aput l q.1 q.2) (aput pages q.1 q.2)).length ≤ pages.length + (l.length + 1)
    omega
theorem pget {α β : Type} {R : α → β → Prop} : ∀ {l : List α} {m : List β} {i : Nat} {x : α}, Paired R l m → l[i]? = some x → ∃ y, m[i]? = some y ∧ R x y
  | _, _, 0, _, .cons h _, e => by cases (Option.some.inj e); exact ⟨_, rfl, h⟩
  | _, _, i + 1, _, .cons _ t, e => pget (i := i) t e
  | _, _, _, _, .nil, e => by simp at e
def sp_Device_sync_pages (c : Cl) : Sp := fun vs H Q E => ∃ p O d, vs = [.ref p] ∧ DevAt c H p O d ∧ Sml d ∧ spD c H p O (dSyncP d) (Q .non) E
theorem ok_Device_sync_pages (T : Txt K mg c) : GM P w K mg base (L2N.CX P w) 2 c.Device "sync_pages" (sp_Device_sync_pages c) := by
  obtain ⟨f, fd, F, gf, gi⟩ := T.f_Device_sync_pages
  have tc_Device := T.cl_Device; have tn_Device_pages := T.n_Device_pages; have tn_Device_page_writes := T.n_Device_page_writes; have tn_Device_durable_log := T.n_Device_durable_log; have tn_Device_log_steps := T.n_Device_log_steps; have tn_Device_done := T.n_Device_done; have tn_Device_most := T.n_Device_most
  refine ⟨f, fd, ["self"], okXN F sc_Device_sync_pages ?_ (fun cdv A outer s H vs Q E hr h => ?_), ⟨gf, gi, F.kp⟩, (F.binds (ps := ["self"]) fun _ _ _ _ _ _ us hl => match us, hl with | [_], _ => rfl)⟩
  · rintro vs H Q E ⟨_, _, _, rfl, _⟩
    rfl
  · obtain ⟨p, O0, d, rfl, hD, sm, k⟩ := h
    obtain ⟨O, dx, a1, a2, a3, a4, kvs, ws, eO, D, og⟩ := hD.opn
    have fr : ∀ {x}, H x = none → O x := fun h => by rw [eO]; exact .inr h
    have ho := D.o
    refine ⟨_, (pss_cons (ps_expr (pe_gm0 T.cl_Device (ok_Device_step T) (pv 0) (hr.mono (by decide)) (passEN (E := E) rfl rfl rfl rfl)))
      (pss_cons (ps_for (passes_of rfl) rfl (pi_listK rfl (pe_fldK rfl (pv 0))) (pg_kT rfl (pg_tup (n := 2) rfl (pgs_cons (pg_name (i := 1) sc_Device_sync_pages.nd rfl (Or.inl rfl)) (pgs_cons (pg_name (i := 2) sc_Device_sync_pages.nd rfl (Or.inl rfl)) pgs_nil)))) (pss_one (ps_dput (hu_of hr) (pe_fldK rfl (pv 0)) (pv 1) (pv 2) rfl)))
      (pss_one (ps_fld (pv 0) (pe_lst pa_nil) rfl)))), ?_⟩
    walk_at "cx"
    walk_at "rd"
    refine ⟨O, p, dx, a1, a2, a3, a4, kvs, ws, d, rfl, D, fun hc H1 D1 k1 => ?_, fun hc => k.no hc hD⟩
    have ho1 := D1.o
    have hw1 := D1.wr
    walk_at "rd"
    refine wfor Wk.list (fun i σ H' => ∃ kvs' u v, σ = [some (.ref p), u, v] ∧ DevA c O H' p dx a1 a2 a3 a4 kvs' ws { d with pages := (d.writes.take i).foldl (fun l q => aput l q.1 q.2) d.pages, done := d.done + 1 } ∧ Kp (DevG p a1 a2 a4) H H')
      ⟨kvs, none, none, rfl, D1, k1.mono F1.g⟩ (fun i σ H' ⟨_, _, _, _, D', _⟩ => SqL.of D'.wr) ?_ ?_
    · rintro i x σ H2 ex ⟨kvs', u, v, rfl, D2, kk⟩
      obtain ⟨q, eq, t, a, rfl, ht, hi⟩ := pget D2.wp ex
      have ho2 := D2.o
      have hp2 := D2.pg
      have eq' : d.writes[i]? = some q := eq
      have hl : kvs'.length = ((d.writes.take i).foldl (fun l q => aput l q.1 q.2) d.pages).length := D2.pr.length
      have hl2 := puts_len (d.writes.take i) d.pages
      have hl3 : (d.writes.take i).length ≤ d.writes.length := by rw [List.length_take]; omega
      walk_at "rd"
      refine x_dpI hp2 (by have := sm.1; have := sm.2.1; omega) fun H3 hp3 k3 => ?_
      have sub : ∀ x, F1 a1 x → DevG p a1 a2 a4 x := fun x z => .inr (.inl z)
      refine ⟨putK kvs' (.inl q.1) (.ref a), _, _, rfl, ?_, kk.trans k3 fun x z => .inl (sub x z)⟩
      have e : (d.writes.take (i + 1)).foldl (fun l q => aput l q.1 q.2) d.pages = aput ((d.writes.take i).foldl (fun l q => aput l q.1 q.2) d.pages) q.1 q.2 := by
        rw [List.take_succ, eq', List.foldl_append]; rfl
      rw [e]
      exact ⟨k3.get D2.o D2.np1, hp3, put_pr RPg.key ⟨rfl, a, rfl, hi.kp k3 sub⟩ (Paired.mono (fun _ _ r => r.kp k3 sub) D2.pr), k3.get D2.wr D2.n12.symm, Paired.mono (fun _ _ r => r.kp k3 sub) D2.wp, D2.lg.kp k3 sub, k3.get D2.st D2.n14.symm, D2.ne, D2.ow⟩
    · rintro σ H2 ⟨kvs', u, v, rfl, D2, kk⟩
      have lw : ws.length = d.writes.length := D.wp.length
      rw [lw, List.take_length] at D2
      have ho2 := D2.o
      walk_at "rd"
      refine x_newL fun b H3 hb k3 hb3 => ?_
      have D3 := D2.same k3
      have ho3 := D3.o
      walk_at "rd"
      intro H4 p4 k4
      have nb := D2.fresh hb
      have nbp : b ≠ p := fun z => nb (.inl z)
      have nb1 : b ≠ a1 := fun z => nb (.inr (.inl z))
      have nb4 : b ≠ a4 := fun z => nb (.inr (.inr (.inr z)))
      have k24 : Kp (DevG p a1 a2 a4) H2 H4 := (k3.mono fun _ z => z.elim).trans k4 fun x z => .inl (.inl z)
      have im : ∀ a ds, Im H2 O (DevG p a1 a2 a4) a ds → Im H4 O (DevG p a1 b a4) a ds := fun a ds i => ⟨k24.get i.1 i.2.2, i.2.1, by
        rintro (z | z | z | z)
        · exact i.2.2 (.inl z)
        · exact i.2.2 (.inr (.inl z))
        · exact ne_of_none i.1 hb z
        · exact i.2.2 (.inr (.inr (.inr z)))⟩
      have D4 : DevA c O H4 p dx a1 b a3 a4 kvs' [] { d with pages := d.writes.foldl (fun l q => aput l q.1 q.2) d.pages, writes := [], done := d.done + 1 } :=
        ⟨p4, k4.get D3.pg D3.np1.symm, Paired.mono (fun _ _ r => r.im im) D2.pr, k4.get hb3 nbp, .nil, im _ _ D2.lg, k4.get D3.st D3.np4.symm, nb4, by
          rintro x (z | z | z | z)
          · exact D.ow _ (.inl z)
          · exact D.ow _ (.inr (.inl z))
          · rw [z]; exact fr (kk.free hb nb)
          · exact D.ow _ (.inr (.inr (.inr z)))⟩
      exact k.yes hc (D4.clo eO) (Stp.nO (G := DevG p a1 a2 a4) (kk.trans k24 fun _ z => .inl z) og)
/-- one more step of the log -/
theorem DevA.byte {O : Addr → Prop} {H H' : Hp} {p dx a1 a2 a3 a4 : Addr} {kvs : List (Key × V)} {ws : List V} {d : DevS} {b : Option Int} (D : DevA c O H p dx a1 a2 a3 a4 kvs ws d) (k4 : Kp (F1 a4) H H') (h : H' a4 = some (.lst (d.steps.map oV ++ [oV b]))) : DevA c O H' p dx a1 a2 a3 a4 kvs ws { d with steps := d.steps ++ [b] } := by
  have sub : ∀ x, F1 a4 x → DevG p a1 a2 a4 x := fun x z => .inr (.inr (.inr z))
  exact ⟨k4.get D.o D.np4, k4.get D.pg D.n14, Paired.mono (fun _ _ r => r.kp k4 sub) D.pr, k4.get D.wr D.ne, Paired.mono (fun _ _ r => r.kp k4 sub) D.wp, D.lg.kp k4 sub, by rw [h]; simp, D.ne, D.ow⟩
def sp_Device_append (c : Cl) (K : PySem.W.Frag) : Sp := fun vs H Q E => ∃ p O d l bs, vs = [.ref p, .ref l] ∧ DevAt c H p O d ∧ SqL K H l (bs.map V.int) ∧ ¬ O l ∧ Sml d ∧ bs.length ≤ 8000000 ∧ spD c H p O (dApp bs d) (Q .non) E
theorem dApp_app : ∀ (bs : List Int) (d : DevS) (b : Int), (dApp bs d).2 = true → dApp (bs ++ [b]) d = dByte (some b) (dApp bs d).1
  | [], d, b, _ => by
    show (if (dByte (some b) d).2 = true then ((dByte (some b) d).1, true) else (d, false)) = dByte (some b) d
    unfold dByte pw
    by_cases h : can d = true
    · rw [if_pos h, if_pos rfl]
    · rw [if_neg h, if_neg Bool.false_ne_true]
  | x :: bs, d, b, h => by
    show (if (dByte (some x) d).2 = true then dApp (bs ++ [b]) (dByte (some x) d).1 else (d, false)) = _
    by_cases q : (dByte (some x) d).2 = true
    · have e : dApp (x :: bs) d = dApp bs (dByte (some x) d).1 := by show (if _ then _ else _) = _; rw [if_pos q]
      rw [if_pos q, e]
      rw [e] at h
      exact dApp_app bs _ b h
    · have e : dApp (x :: bs) d = (d, false) := by show (if _ then _ else _) = _; rw [if_neg q]
      rw [e] at h
      cases h
theorem dApp_stop : ∀ (bs cs : List Int) (d : DevS) (b : Int), (dApp bs d).2 = true → can (dApp bs d).1 = false → dApp (bs ++ b :: cs) d = ((dApp bs d).1, false)
  | [], cs, d, b, _, h => by
    show (if (dByte (some b) d).2 = true then _ else (d, false)) = (d, false)
    have : (dByte (some b) d).2 = false := by unfold dByte pw; rw [if_neg (by rw [show can d = false from h]; exact Bool.false_ne_true)]
    rw [this]; rfl
  | x :: bs, cs, d, b, h, g => by
    show (if (dByte (some x) d).2 = true then dApp (bs ++ b :: cs) (dByte (some x) d).1 else (d, false)) = _
    by_cases q : (dByte (some x) d).2 = true
    · have e : dApp (x :: bs) d = dApp bs (dByte (some x) d).1 := by show (if _ then _ else _) = _; rw [if_pos q]
      rw [if_pos q, e]
      rw [e] at h g
      exact dApp_stop bs cs _ b h g
    · have e : dApp (x :: bs) d = (d, false) := by show (if _ then _ else _) = _; rw [if_neg q]
      rw [e] at h
      cases h
theorem dByte_steps (b : Option Int) (d : DevS) : (dByte b d).1.steps.length ≤ d.steps.length + 1 := by
  unfold dByte pw; split
  · show (d.steps ++ [b]).length ≤ _; rw [List.length_append]; exact Nat.le_refl _
  · exact Nat.le_succ _
theorem dApp_steps : ∀ (bs : List Int) (d : DevS), (dApp bs d).1.steps.length ≤ d.steps.length + bs.length
  | [], _ => Nat.le_refl _
  | x :: bs, d => by
    show (if (dByte (some x) d).2 = true then dApp bs (dByte (some x) d).1 else (d, false)).1.steps.length ≤ d.steps.length + (bs.length + 1)
    have h1 := dApp_steps bs (dByte (some x) d).1
    have h2 := dByte_steps (some x) d
    split
    · omega
    · show d.steps.length ≤ _; omega
theorem ok_Device_append (T : Txt K mg c) : GM P w K mg base (L2N.CX P w) 2 c.Device "append" (sp_Device_append c K) := by
  obtain ⟨f, fd, F, gf, gi⟩ := T.f_Device_append
  have tc_Device := T.cl_Device; have tn_Device_pages := T.n_Device_pages; have tn_Device_page_writes := T.n_Device_page_writes; have tn_Device_durable_log := T.n_Device_durable_log; have tn_Device_log_steps := T.n_Device_log_steps; have tn_Device_done := T.n_Device_done; have tn_Device_most := T.n_Device_most
  refine ⟨f, fd, ["self", "data"], okXN F sc_Device_append ?_ (fun cdv A outer s H vs Q E hr h => ?_), ⟨gf, gi, F.kp⟩, (F.binds (ps := ["self", "data"]) fun _ _ _ _ _ _ us hl => match us, hl with | [_, _], _ => rfl)⟩
  · rintro vs H Q E ⟨_, _, _, _, _, rfl, _⟩
    rfl
  · obtain ⟨p, O0, d, l, bs, rfl, hD, hl, nl, sm, hz, k⟩ := h
    obtain ⟨O, dx, a1, a2, a3, a4, kvs, ws, eO, D, og⟩ := hD.opn
    have fr : ∀ {x}, H x = none → O x := fun h => by rw [eO]; exact .inr h
    have ho := D.o
    refine ⟨_, (pss_one (ps_for (passes_of rfl) rfl (pi_listK rfl (pv 1)) (pg_name (i := 2) sc_Device_append.nd rfl (Or.inl rfl)) (pss_cons (ps_expr (pe_gm0 T.cl_Device (ok_Device_step T) (pv 0) (hr.mono (by decide)) (passEN (E := E) rfl rfl rfl rfl)))
      (pss_one (ps_expr (pe_kBM rfl (pe_bm PySem.F.plainAttrs_list PySem.F.slot_list_append PySem.F.type_list_append mt_append (pe_fldK rfl (pv 0)) (pa_cons (pv 2) pa_nil)))))))), ?_⟩
    walk_at "cx"
    walk_at "rd"
    refine wfor Wk.list (fun i σ H' => ∃ u, σ = [some (.ref p), some (.ref l), u] ∧ (dApp (bs.take i) d).2 = true ∧ DevA c O H' p dx a1 a2 a3 a4 kvs ws (dApp (bs.take i) d).1 ∧ Kp (DevG p a1 a2 a4) H H')
      ⟨none, rfl, rfl, D, Kp.refl _⟩ (fun i σ H' ⟨_, _, _, _, kk⟩ => kk.sqL hl fun z => nl (og _ z)) ?_ ?_
    · rintro i x σ H2 ex ⟨u, rfl, hb, D2, kk⟩
      have eb : ∃ b, bs[i]? = some b ∧ x = .int b := by
        rw [List.getElem?_map] at ex
        cases q : bs[i]? with
        | none => rw [q] at ex; cases ex
        | some z => rw [q] at ex; exact ⟨z, rfl, (Option.some.inj ex).symm⟩
      obtain ⟨b, eb, rfl⟩ := eb
      have ho2 := D2.o
      have tk : bs.take (i + 1) = bs.take i ++ [b] := by rw [List.take_succ, eb]; rfl
      walk_at "rd"
      refine ⟨O, p, dx, a1, a2, a3, a4, kvs, ws, _, rfl, D2, fun hc H3 D3 k3 => ?_, fun hc => ?_⟩
      · have ho3 := D3.o
        have hs3 := D3.st
        walk_at "rd"
        refine x_app hs3 (by
          have h1 := dApp_steps (bs.take i) d
          have h2 : (bs.take i).length ≤ bs.length := by rw [List.length_take]; omega
          have h3 := sm.2.2.1
          rw [List.length_map]
          show (dApp (bs.take i) d).1.steps.length < 16777216
          omega) fun H4 h4 k4 => ?_
        have e := dApp_app (bs.take i) d b hb
        rw [tk, e]
        have D4 := D3.byte (b := some b) k4 h4
        refine ⟨_, rfl, ?_, ?_, (kk.trans (k3.mono F1.g) fun x z => .inl z).trans k4 fun x z => .inl (.inr (.inr (.inr z)))⟩
        · unfold dByte pw; rw [if_pos hc]
        · unfold dByte pw; rw [if_pos hc]; exact D4
      · have e : dApp bs d = ((dApp (bs.take i) d).1, false) := by
          have q := dApp_stop (bs.take i) (bs.drop (i + 1)) d b hb hc
          have hi : i < bs.length := (List.getElem?_eq_some_iff.mp eb).1
          have hbi : bs[i] = b := (List.getElem?_eq_some_iff.mp eb).2
          rw [← hbi, ← List.drop_eq_getElem_cons hi, List.take_append_drop] at q
          exact q
        have q := k H2 _ (by rw [e]; exact D2.clo eO) (Stp.nO kk og)
        rw [e, if_neg (by exact Bool.false_ne_true)] at q
        exact q
    · rintro σ H2 ⟨u, rfl, hb, D2, kk⟩
      rw [List.length_map, List.take_length] at hb D2
      have q := k H2 _ (D2.clo eO) (Stp.nO kk og)
      rw [if_pos hb] at q
      exact q
def sp_Device_clear (c : Cl) : Sp := fun vs H Q E => ∃ p O d, vs = [.ref p] ∧ DevAt c H p O d ∧ Sml d ∧ spD c H p O (dByte none d) (Q .non) E
theorem ok_Device_clear (T : Txt K mg c) : GM P w K mg base (L2N.CX P w) 2 c.Device "clear" (sp_Device_clear c) := by
  obtain ⟨f, fd, F, gf, gi⟩ := T.f_Device_clear
  have tc_Device := T.cl_Device; have tn_Device_pages := T.n_Device_pages; have tn_Device_page_writes := T.n_Device_page_writes; have tn_Device_durable_log := T.n_Device_durable_log; have tn_Device_log_steps := T.n_Device_log_steps; have tn_Device_done := T.n_Device_done; have tn_Device_most := T.n_Device_most
  refine ⟨f, fd, ["self"], okXN F sc_Device_clear ?_ (fun cdv A outer s H vs Q E hr h => ?_), ⟨gf, gi, F.kp⟩, (F.binds (ps := ["self"]) fun _ _ _ _ _ _ us hl => match us, hl with | [_], _ => rfl)⟩
  · rintro vs H Q E ⟨_, _, _, rfl, _⟩
    rfl
  · obtain ⟨p, O0, d, rfl, hD, sm, k⟩ := h
    obtain ⟨O, dx, a1, a2, a3, a4, kvs, ws, eO, D, og⟩ := hD.opn
    have fr : ∀ {x}, H x = none → O x := fun h => by rw [eO]; exact .inr h
    have ho := D.o
    refine ⟨_, (pss_cons (ps_expr (pe_gm0 T.cl_Device (ok_Device_step T) (pv 0) (hr.mono (by decide)) (passEN (E := E) rfl rfl rfl rfl)))
      (pss_one (ps_expr (pe_kBM rfl (pe_bm PySem.F.plainAttrs_list PySem.F.slot_list_append PySem.F.type_list_append mt_append (pe_fldK rfl (pv 0)) (pa_cons pe_non pa_nil)))))), ?_⟩
    walk_at "cx"
    walk_at "rd"
    refine ⟨O, p, dx, a1, a2, a3, a4, kvs, ws, d, rfl, D, fun hc H1 D1 k1 => ?_, fun hc => k.no hc hD⟩
    have ho1 := D1.o
    have hs1 := D1.st
    walk_at "rd"
    refine x_app hs1 (by rw [List.length_map]; have := sm.2.2.1; show d.steps.length < _; omega) fun H4 h4 k4 => ?_
    exact k.yes hc ((D1.byte (b := none) k4 h4).clo eO) (Stp.nO (G := DevG p a1 a2 a4) ((k1.mono F1.g).trans k4 fun x z => .inl (.inr (.inr (.inr z)))) og)
def sp_Device_log (c : Cl) : Sp := fun vs H Q _ => ∃ p O d, vs = [.ref p] ∧ DevAt c H p O d ∧ Sml d ∧ ∀ b H', H b = none → Kp F0 H H' → H' b = some (.lst ((clog d).map V.int)) → Q (.ref b) H'
theorem lstep_len (l : List Int) (o : Option Int) : (lstep l o).length ≤ l.length + 1 := by
  cases o with
  | none => exact Nat.zero_le _
  | some b => show (l ++ [b]).length ≤ _; rw [List.length_append]; exact Nat.le_refl _
theorem lsteps_len : ∀ (os : List (Option Int)) (l : List Int), (os.foldl lstep l).length ≤ l.length + os.length
  | [], _ => Nat.le_refl _
  | o :: os, l => by
    have h1 := lsteps_len os (lstep l o)
    have h2 := lstep_len l o
    show (os.foldl lstep (lstep l o)).length ≤ l.length + (os.length + 1)
    omega
theorem ok_Device_log (T : Txt K mg c) : GM P w K mg base CX0 1 c.Device "log" (sp_Device_log c) := by
  obtain ⟨f, fd, F, gf, gi⟩ := T.f_Device_log
  have tc_Device := T.cl_Device; have tn_Device_pages := T.n_Device_pages; have tn_Device_page_writes := T.n_Device_page_writes; have tn_Device_durable_log := T.n_Device_durable_log; have tn_Device_log_steps := T.n_Device_log_steps; have tn_Device_done := T.n_Device_done; have tn_Device_most := T.n_Device_most
  refine ⟨f, fd, ["self"], F.ok sc_Device_log ?_ (fun cdv A outer s H vs Q E hr h => ?_), ⟨gf, gi, F.kp⟩, (F.binds (ps := ["self"]) fun _ _ _ _ _ _ us hl => match us, hl with | [_], _ => rfl)⟩
  · rintro vs H Q E ⟨_, _, _, rfl, _⟩
    rfl
  · obtain ⟨p, O0, d, rfl, hD, sm, k⟩ := h
    obtain ⟨O, dx, a1, a2, a3, a4, kvs, ws, eO, D, og⟩ := hD.opn
    have fr : ∀ {x}, H x = none → O x := fun h => by rw [eO]; exact .inr h
    have ho := D.o
    have hs := D.st
    refine ⟨_, (pss_cons (ps_set (i := 1) sc_Device_log.nd rfl (Or.inl rfl) (pe_callTy (r := rLstQ K) c_list (by rfl) T.z_list (by decide +kernel) (pa_cons (pe_fldK rfl (pv 0)) pa_nil)))
      (pss_cons (ps_for PassesOwn.never rfl (pi_listK rfl (pe_fldK rfl (pv 0))) (pg_name (i := 2) sc_Device_log.nd rfl (Or.inl rfl)) (pss_one (ps_if (pt_cmpR o_isN (pv 2) pe_non (nomark _)) (pss_one (ps_set (i := 1) sc_Device_log.nd rfl (Or.inl rfl) (pe_lst pa_nil))) (pss_one (ps_expr (pe_kBM rfl (pe_bm PySem.F.plainAttrs_list PySem.F.slot_list_append PySem.F.type_list_append mt_append (pv 1) (pa_cons (pv 2) pa_nil))))))))
      (pss_one (ps_ret (pv 1))))), ?_⟩
    walk_at "cx"
    walk_at "rd"
    refine x_lstL (SqL.of D.lg.1) fun b H1 hb k1 hb1 => ?_
    have ho1 := k1.get ho id
    have hs1 := k1.get hs id
    walk_at "rd"
    refine wfor Wk.list (fun i σ H' => ∃ b u, σ = [some (.ref p), some (.ref b), u] ∧ H' b = some (.lst (((d.steps.take i).foldl lstep d.log).map V.int)) ∧ H b = none ∧ Kp F0 H H')
      ⟨b, none, rfl, hb1, hb, k1⟩ (fun i σ H' ⟨_, _, _, _, _, kk⟩ => SqL.of (kk.get hs id)) ?_ ?_
    · rintro i x σ H2 ex ⟨b, u, rfl, hb2, hb0, kk⟩
      have e : ∃ o, d.steps[i]? = some o ∧ x = oV o := by
        rw [List.getElem?_map] at ex
        cases q : d.steps[i]? with
        | none => rw [q] at ex; cases ex
        | some z => rw [q] at ex; exact ⟨z, rfl, (Option.some.inj ex).symm⟩
      obtain ⟨o, eo, rfl⟩ := e
      have tk : (d.steps.take (i + 1)).foldl lstep d.log = lstep ((d.steps.take i).foldl lstep d.log) o := by rw [List.take_succ, eo, List.foldl_append]; rfl
      have ll := lsteps_len (d.steps.take i) d.log
      have l2 : (d.steps.take i).length ≤ d.steps.length := by rw [List.length_take]; omega
      have := sm.2.2.1
      cases o with
      | none =>
        walk_at "rd"
        show rIsNQ .non .non _ _
        walk_at "rd"
        refine x_newL fun b' H3 hb' k3 hb3 => ?_
        exact ⟨b', some .non, rfl, by rw [tk]; exact hb3, kk.free hb' id, kk.trans k3 fun _ z => z.elim⟩
      | some y =>
        walk_at "rd"
        show rIsNQ (.int y) .non _ _
        walk_at "rd"
        show rAppend (.ref b) [.int y] _ _
        refine x_app hb2 (by rw [List.length_map]; omega) fun H3 hb3 k3 => ?_
        exact ⟨b, some (.int y), rfl, by rw [tk, hb3]; show _ = some (HO.lst (((d.steps.take i).foldl lstep d.log ++ [y]).map V.int)); rw [List.map_append]; rfl, hb0, kk.trans k3 fun x z => .inr (by rw [z]; exact hb0)⟩
    · rintro σ H2 ⟨b, u, rfl, hb2, hb0, kk⟩
      rw [List.length_map, List.take_length] at hb2
      walk_at "rd"
      exact k b H2 hb0 kk hb2
theorem okH_Device_log (T : Txt K mg c) : GMH P w K mg base 1 c.Device "log" (sp_Device_log c) := by
  obtain ⟨f, fd, F, gf, gi⟩ := T.f_Device_log
  have tc_Device := T.cl_Device; have tn_Device_pages := T.n_Device_pages; have tn_Device_page_writes := T.n_Device_page_writes; have tn_Device_durable_log := T.n_Device_durable_log; have tn_Device_log_steps := T.n_Device_log_steps; have tn_Device_done := T.n_Device_done; have tn_Device_most := T.n_Device_most
  refine ⟨f, fd, ["self"], okH F sc_Device_log ?_ (fun cdv A outer s H vs Q E pp hc hr h => ?_), ⟨gf, gi, F.kp⟩, (F.binds (ps := ["self"]) fun _ _ _ _ _ _ us hl => match us, hl with | [_], _ => rfl)⟩
  · rintro vs H Q E ⟨_, _, _, rfl, _⟩
    rfl
  · obtain ⟨p, O0, d, rfl, hD, sm, k⟩ := h
    obtain ⟨O, dx, a1, a2, a3, a4, kvs, ws, eO, D, og⟩ := hD.opn
    have fr : ∀ {x}, H x = none → O x := fun h => by rw [eO]; exact .inr h
    have ho := D.o
    have hs := D.st
    refine ⟨_, (pss_cons (ps_set (i := 1) sc_Device_log.nd rfl (Or.inl rfl) (pe_callTy (r := rLstQ K) c_list (by rfl) T.z_list (by decide +kernel) (pa_cons (pe_fldK rfl (pv 0)) pa_nil)))
      (pss_cons (L2H.ps_forH PassesOwn.never hc (pi_lH rfl (pe_fldK rfl (pv 0))) (pg_name (i := 2) sc_Device_log.nd rfl (Or.inl rfl)) (pss_one (ps_if (pt_cmpR o_isN (pv 2) pe_non (nomark _)) (pss_one (ps_set (i := 1) sc_Device_log.nd rfl (Or.inl rfl) (pe_lst pa_nil))) (pss_one (ps_expr (pe_kBM rfl (pe_bm PySem.F.plainAttrs_list PySem.F.slot_list_append PySem.F.type_list_append mt_append (pv 1) (pa_cons (pv 2) pa_nil))))))))
      (pss_one (ps_ret (pv 1))))), ?_⟩
    walk_at "cx"
    walk_at "rd"
    refine x_lstL (SqL.of D.lg.1) fun b H1 hb k1 hb1 => ?_
    have ho1 := k1.get ho id
    have hs1 := k1.get hs id
    walk_at "rd"
    refine wfor Wk.list (fun i σ H' => ∃ b u, σ = [some (.ref p), some (.ref b), u] ∧ H' b = some (.lst (((d.steps.take i).foldl lstep d.log).map V.int)) ∧ H b = none ∧ Kp F0 H H')
      ⟨b, none, rfl, hb1, hb, k1⟩ (fun i σ H' ⟨_, _, _, _, _, kk⟩ => SqL.of (kk.get hs id)) ?_ ?_
    · rintro i x σ H2 ex ⟨b, u, rfl, hb2, hb0, kk⟩
      have e : ∃ o, d.steps[i]? = some o ∧ x = oV o := by
        rw [List.getElem?_map] at ex
        cases q : d.steps[i]? with
        | none => rw [q] at ex; cases ex
        | some z => rw [q] at ex; exact ⟨z, rfl, (Option.some.inj ex).symm⟩
      obtain ⟨o, eo, rfl⟩ := e
      have tk : (d.steps.take (i + 1)).foldl lstep d.log = lstep ((d.steps.take i).foldl lstep d.log) o := by rw [List.take_succ, eo, List.foldl_append]; rfl
      have ll := lsteps_len (d.steps.take i) d.log
      have l2 : (d.steps.take i).length ≤ d.steps.length := by rw [List.length_take]; omega
      have := sm.2.2.1
      cases o with
      | none =>
        walk_at "rd"
        show rIsNQ .non .non _ _
        walk_at "rd"
        refine x_newL fun b' H3 hb' k3 hb3 => ?_
        exact ⟨b', some .non, rfl, by rw [tk]; exact hb3, kk.free hb' id, kk.trans k3 fun _ z => z.elim⟩
      | some y =>
        walk_at "rd"
        show rIsNQ (.int y) .non _ _
        walk_at "rd"
        show rAppend (.ref b) [.int y] _ _
        refine x_app hb2 (by rw [List.length_map]; omega) fun H3 hb3 k3 => ?_
        exact ⟨b, some (.int y), rfl, by rw [tk, hb3]; show _ = some (HO.lst (((d.steps.take i).foldl lstep d.log ++ [y]).map V.int)); rw [List.map_append]; rfl, hb0, kk.trans k3 fun x z => .inr (by rw [z]; exact hb0)⟩
    · rintro σ H2 ⟨b, u, rfl, hb2, hb0, kk⟩
      rw [List.length_map, List.take_length] at hb2
      walk_at "rd"
      exact k b H2 hb0 kk hb2
/-- a new list of steps, a new log -/
theorem DevA.newL {O : Addr → Prop} {H1 H' : Hp} {p dx a1 a2 a3 a4 b3 b4 : Addr} {kvs : List (Key × V)} {ws : List V} {d : DevS} {lg : List Int} {sl : List (Option Int)} {n : Int} {mo : Option Int} (D : DevA c O H1 p dx a1 a2 a3 a4 kvs ws d)
    (h4 : H1 b4 = none) (k : Kp (F1 p) H1 H') (o : H' p = some (.ins c.Device dx (F_Device (.ref a1) (.ref a2) (.ref b3) (.ref b4) (.int n) (oV mo)))) (e3 : H' b3 = some (.lst (lg.map V.int))) (e4 : H' b4 = some (.lst (sl.map oV))) (n3 : ¬ DevG p a1 a2 b4 b3) (o3 : O b3) (o4 : O b4) :
    DevA c O H' p dx a1 a2 b3 b4 kvs ws { pages := d.pages, writes := d.writes, log := lg, steps := sl, done := n, most := mo } := by
  have nb := D.fresh h4
  have im : ∀ a ds, Im H1 O (DevG p a1 a2 a4) a ds → Im H' O (DevG p a1 a2 b4) a ds := fun a ds i => ⟨k.get i.1 fun z => i.2.2 (.inl z), i.2.1, by
    rintro (z | z | z | z)
    · exact i.2.2 (.inl z)
    · exact i.2.2 (.inr (.inl z))
    · exact i.2.2 (.inr (.inr (.inl z)))
    · exact ne_of_none i.1 h4 z⟩
  exact ⟨o, k.get D.pg D.np1.symm, Paired.mono (fun _ _ r => r.im im) D.pr, k.get D.wr D.np2.symm, Paired.mono (fun _ _ r => r.im k im) D.wp, ⟨e3, o3, n3⟩, e4, fun z => nb (.inr (.inr (.inl z.symm))), by
    rintro x (z | z | z | z)
    · exact D.ow _ (.inl z)
    · exact D.ow _ (.inr (.inl z))
    · exact D.ow _ (.inr (.inr (.inl z)))
    · rw [z]; exact o4⟩
def sp_Device_sync_log (c : Cl) : Sp := fun vs H Q E => ∃ p O d, vs = [.ref p] ∧ DevAt c H p O d ∧ Sml d ∧ spD c H p O (dSyncL d) (Q .non) E
theorem ok_Device_sync_log (T : Txt K mg c) : GM P w K mg base (L2N.CX P w) 2 c.Device "sync_log" (sp_Device_sync_log c) := by
  obtain ⟨f, fd, F, gf, gi⟩ := T.f_Device_sync_log
  have tc_Device := T.cl_Device; have tn_Device_pages := T.n_Device_pages; have tn_Device_page_writes := T.n_Device_page_writes; have tn_Device_durable_log := T.n_Device_durable_log; have tn_Device_log_steps := T.n_Device_log_steps; have tn_Device_done := T.n_Device_done; have tn_Device_most := T.n_Device_most
  refine ⟨f, fd, ["self"], okXN F sc_Device_sync_log ?_ (fun cdv A outer s H vs Q E hr h => ?_), ⟨gf, gi, F.kp⟩, (F.binds (ps := ["self"]) fun _ _ _ _ _ _ us hl => match us, hl with | [_], _ => rfl)⟩
  · rintro vs H Q E ⟨_, _, _, rfl, _⟩
    rfl
  · obtain ⟨p, O0, d, rfl, hD, sm, k⟩ := h
    obtain ⟨O, dx, a1, a2, a3, a4, kvs, ws, eO, D, og⟩ := hD.opn
    have fr : ∀ {x}, H x = none → O x := fun h => by rw [eO]; exact .inr h
    have ho := D.o
    refine ⟨_, (pss_cons (ps_expr (pe_gm0 T.cl_Device (ok_Device_step T) (pv 0) (hr.mono (by decide)) (passEN (E := E) rfl rfl rfl rfl)))
      (pss_cons (ps_fld (pv 0) (pe_gm0 T.cl_Device (ok_Device_log T) (pv 0) (hr.mono (by decide)) pass0S) rfl)
      (pss_one (ps_fld (pv 0) (pe_lst pa_nil) rfl)))), ?_⟩
    walk_at "cx"
    walk_at "rd"
    refine ⟨O, p, dx, a1, a2, a3, a4, kvs, ws, d, rfl, D, fun hc H1 D1 k1 => ?_, fun hc => k.no hc hD⟩
    have ho1 := D1.o
    walk_at "rd"
    refine ⟨p, _, _, rfl, D1.clo eO, sm, fun b H2 hb k2 hb2 => ?_⟩
    have D2 := D1.same k2
    have ho2 := D2.o
    have nbp : b ≠ p := fun z => D1.fresh hb (.inl z)
    walk_at "rd"
    intro H3 p3 k3
    have hb3 := k3.get hb2 nbp
    walk_at "rd"
    refine x_newL fun e H4 he k4 he4 => ?_
    have hb4 := k4.get hb3 id
    walk_at "rd"
    intro H5 p5 k5
    have nep : e ≠ p := fun z => by rw [z, p3] at he; cases he
    have nbe : b ≠ e := ne_of_none hb3 he
    have he2 : H2 e = none := k3.free he nep
    have k12 : Kp (F1 p) H H2 := k1.trans k2 fun _ z => z.elim
    have kk : Kp (F1 p) H2 H5 := (k3.trans k4 fun _ z => z.elim).trans k5 fun _ z => .inl z
    have q : DevA c O H5 p dx a1 a2 b e kvs ws { pages := d.pages, writes := d.writes, log := clog d, steps := [], done := d.done + 1, most := d.most } :=
      D2.newL (lg := clog d) (sl := []) he2 kk p5 (k5.get hb4 nbp) (k5.get he4 nep) (by
        rintro (z | z | z | z)
        · exact nbp z
        · exact D1.fresh hb (.inr (.inl z))
        · exact D1.fresh hb (.inr (.inr (.inl z)))
        · exact nbe z) (fr (k1.free hb nbp)) (fr (k12.free he2 nep))
    exact k.yes hc (q.clo eO) (Stp.nO (G := DevG p a1 a2 a4) ((k12.mono F1.g).trans kk fun _ z => .inl (.inl z)) og)
def sp_Device_durable_page (c : Cl) : Sp := fun vs H Q _ => ∃ p O d n, vs = [.ref p, .int n] ∧ DevAt c H p O d ∧ ∀ b H', H b = none → Kp F0 H H' → H' b = some (.lst ((dpg d n).map V.int)) → Q (.ref b) H'
theorem ok_Device_durable_page (T : Txt K mg c) : GM P w K mg base CX0 1 c.Device "durable_page" (sp_Device_durable_page c) := by
  obtain ⟨f, fd, F, gf, gi⟩ := T.f_Device_durable_page
  obtain ⟨_, mg_PAGE_SIZE⟩ := T.m_PAGE_SIZE
  have tc_Device := T.cl_Device; have tn_Device_pages := T.n_Device_pages; have tn_Device_page_writes := T.n_Device_page_writes; have tn_Device_durable_log := T.n_Device_durable_log; have tn_Device_log_steps := T.n_Device_log_steps; have tn_Device_done := T.n_Device_done; have tn_Device_most := T.n_Device_most
  refine ⟨f, fd, ["self", "number"], F.ok sc_Device_durable_page ?_ (fun cdv A outer s H vs Q E hr h => ?_), ⟨gf, gi, F.kp⟩, (F.binds (ps := ["self", "number"]) fun _ _ _ _ _ _ us hl => match us, hl with | [_, _], _ => rfl)⟩
  · rintro vs H Q E ⟨_, _, _, _, rfl, _⟩
    rfl
  · obtain ⟨p, O0, d, n, rfl, hD, k⟩ := h
    obtain ⟨O, dx, a1, a2, a3, a4, kvs, ws, eO, D, og⟩ := hD.opn
    have fr : ∀ {x}, H x = none → O x := fun h => by rw [eO]; exact .inr h
    have ho := D.o
    have hp := D.pg
    refine ⟨_, (pss_one (ps_ret (pe_callTy (r := rLstQ K) c_list (by rfl) T.z_list (by decide +kernel) (pa_cons (pe_dget2 (hu_of hr) (pe_fldK rfl (pv 0)) (pv 1) (pe_op op_rep (pe_lst (pa_cons pe_int pa_nil)) (pe_glob (v := .int 256) rfl mg_PAGE_SIZE ⟨_, rfl⟩)) ⟨rfl, rfl, rfl, rfl⟩) pa_nil)))), ?_⟩
    walk_at "cx"
    walk_at "rd"
    refine x_newL fun z1 H1 hz1 k1 hz11 => ?_
    walk_at "rd"
    refine x_rep hz11 (by decide) (by decide) fun z2 H2 hz2 k2 hz22 => ?_
    have D2 := (D.same k1).same k2
    have hp2 := D2.pg
    walk_at "rd"
    have ez : List.replicate (256 : Int).toNat (V.int 0) = zeros.map V.int := by unfold zeros; rw [List.map_replicate]; rfl
    rw [ez] at hz22
    have fin : ∀ {x : Addr} {ds : List Int}, H2 x = some (.lst (ds.map V.int)) → dpg d n = ds → rLstQ K [.ref x] H2 Q := fun {x ds} hx e => by
      refine x_lstL (SqL.of hx) fun b H3 hb k3 hb3 => ?_
      exact k b H3 (k1.free (k2.free hb id) id) ((k1.trans k2 fun _ z => z.elim).trans k3 fun _ z => z.elim) (by rw [e]; exact hb3)
    rcases get_pr RPg.key n D2.pr with ⟨e1, e2⟩ | ⟨v, ds, e1, e2, _, a, rfl, i⟩
    · rw [e1]
      exact fin hz22 (by unfold dpg; rw [e2]; rfl)
    · rw [e1]
      exact fin i.1 (by unfold dpg; rw [e2]; rfl)
theorem okH_Device_durable_page (T : Txt K mg c) : GMH P w K mg base 1 c.Device "durable_page" (sp_Device_durable_page c) := by
  obtain ⟨f, fd, F, gf, gi⟩ := T.f_Device_durable_page
  obtain ⟨_, mg_PAGE_SIZE⟩ := T.m_PAGE_SIZE
  have tc_Device := T.cl_Device; have tn_Device_pages := T.n_Device_pages; have tn_Device_page_writes := T.n_Device_page_writes; have tn_Device_durable_log := T.n_Device_durable_log; have tn_Device_log_steps := T.n_Device_log_steps; have tn_Device_done := T.n_Device_done; have tn_Device_most := T.n_Device_most
  refine ⟨f, fd, ["self", "number"], okH F sc_Device_durable_page ?_ (fun cdv A outer s H vs Q E pp hc hr h => ?_), ⟨gf, gi, F.kp⟩, (F.binds (ps := ["self", "number"]) fun _ _ _ _ _ _ us hl => match us, hl with | [_, _], _ => rfl)⟩
  · rintro vs H Q E ⟨_, _, _, _, rfl, _⟩
    rfl
  · obtain ⟨p, O0, d, n, rfl, hD, k⟩ := h
    obtain ⟨O, dx, a1, a2, a3, a4, kvs, ws, eO, D, og⟩ := hD.opn
    have fr : ∀ {x}, H x = none → O x := fun h => by rw [eO]; exact .inr h
    have ho := D.o
    have hp := D.pg
    refine ⟨_, (pss_one (ps_ret (pe_callTy (r := rLstQ K) c_list (by rfl) T.z_list (by decide +kernel) (pa_cons (pe_dget2 (huH hr) (pe_fldK rfl (pv 0)) (pv 1) (pe_op op_rep (pe_lst (pa_cons pe_int pa_nil)) (pe_glob (v := .int 256) rfl mg_PAGE_SIZE ⟨_, rfl⟩)) ⟨rfl, rfl, rfl, rfl⟩) pa_nil)))), ?_⟩
    walk_at "cx"
    walk_at "rd"
    refine x_newL fun z1 H1 hz1 k1 hz11 => ?_
    walk_at "rd"
    refine x_rep hz11 (by decide) (by decide) fun z2 H2 hz2 k2 hz22 => ?_
    have D2 := (D.same k1).same k2
    have hp2 := D2.pg
    walk_at "rd"
    have ez : List.replicate (256 : Int).toNat (V.int 0) = zeros.map V.int := by unfold zeros; rw [List.map_replicate]; rfl
    rw [ez] at hz22
    have fin : ∀ {x : Addr} {ds : List Int}, H2 x = some (.lst (ds.map V.int)) → dpg d n = ds → rLstQ K [.ref x] H2 Q := fun {x ds} hx e => by
      refine x_lstL (SqL.of hx) fun b H3 hb k3 hb3 => ?_
      exact k b H3 (k1.free (k2.free hb id) id) ((k1.trans k2 fun _ z => z.elim).trans k3 fun _ z => z.elim) (by rw [e]; exact hb3)
    rcases get_pr RPg.key n D2.pr with ⟨e1, e2⟩ | ⟨v, ds, e1, e2, _, a, rfl, i⟩
    · rw [e1]
      exact fin hz22 (by unfold dpg; rw [e2]; rfl)
    · rw [e1]
      exact fin i.1 (by unfold dpg; rw [e2]; rfl)
def sp_Device_page (c : Cl) : Sp := fun vs H Q _ => ∃ p O d n, vs = [.ref p, .int n] ∧ DevAt c H p O d ∧ ∀ b H', H b = none → Kp F0 H H' → H' b = some (.lst ((cpg d n).map V.int)) → Q (.ref b) H'
theorem prev {α β : Type} {R : α → β → Prop} : ∀ {l : List α} {m : List β}, Paired R l m → Paired R l.reverse m.reverse
  | _, _, .nil => .nil
  | _, _, .cons h t => by
    rw [List.reverse_cons, List.reverse_cons]
    exact (prev t).snoc h
theorem ok_Device_page (T : Txt K mg c) : GM P w K mg base CX0 2 c.Device "page" (sp_Device_page c) := by
  obtain ⟨f, fd, F, gf, gi⟩ := T.f_Device_page
  have tc_Device := T.cl_Device; have tn_Device_pages := T.n_Device_pages; have tn_Device_page_writes := T.n_Device_page_writes; have tn_Device_durable_log := T.n_Device_durable_log; have tn_Device_log_steps := T.n_Device_log_steps; have tn_Device_done := T.n_Device_done; have tn_Device_most := T.n_Device_most
  refine ⟨f, fd, ["self", "number"], F.ok sc_Device_page ?_ (fun cdv A outer s H vs Q E hr h => ?_), ⟨gf, gi, F.kp⟩, (F.binds (ps := ["self", "number"]) fun _ _ _ _ _ _ us hl => match us, hl with | [_, _], _ => rfl)⟩
  · rintro vs H Q E ⟨_, _, _, _, rfl, _⟩
    rfl
  · obtain ⟨p, O0, d, n, rfl, hD, k⟩ := h
    obtain ⟨O, dx, a1, a2, a3, a4, kvs, ws, eO, D, og⟩ := hD.opn
    have fr : ∀ {x}, H x = none → O x := fun h => by rw [eO]; exact .inr h
    have ho := D.o
    have hw := D.wr
    refine ⟨_, (pss_cons (ps_for PassesOwn.never rfl (pi_revK rfl (pi_reversed (by rfl) T.z_reversed (pa_cons (pe_fldK rfl (pv 0)) pa_nil))) (pg_kT rfl (pg_tup (n := 2) rfl (pgs_cons (pg_name (i := 2) sc_Device_page.nd rfl (Or.inl rfl)) (pgs_cons (pg_name (i := 3) sc_Device_page.nd rfl (Or.inl rfl)) pgs_nil)))) (pss_one (ps_if (pt_cmpR op_eq (pv 2) (pv 1) (nomark _)) (pss_one (ps_ret (pe_callTy (r := rLstQ K) c_list (by rfl) T.z_list (by decide +kernel) (pa_cons (pv 3) pa_nil)))) pss_nil)))
      (pss_one (ps_ret (pe_gm T.cl_Device (ok_Device_durable_page T) (pv 0) (hr.mono (by decide)) pass0S (pa_cons (pv 1) pa_nil))))), ?_⟩
    walk_at "cx"
    walk_at "rd"
    refine wfor Wk.rev (fun i σ H' => ∃ u v, σ = [some (.ref p), some (.int n), u, v] ∧ H = H' ∧ (d.writes.reverse.take i).find? (fun q => decide (q.1 = n)) = none)
      ⟨none, none, rfl, rfl, rfl⟩ (fun i σ H' ⟨_, _, _, e, _⟩ => by rw [← e]; exact SqL.of hw) ?_ ?_
    · rintro i x σ H2 ex ⟨u, v, rfl, rfl, hf⟩
      obtain ⟨q, eq, t, a, rfl, ht, hi⟩ := pget (prev D.wp) ex
      walk_at "rd"
      have tk : d.writes.reverse.take (i + 1) = d.writes.reverse.take i ++ [q] := by rw [List.take_succ, eq]; rfl
      refine ite_dec (fun e => ?_) fun e => ?_
      · walk_at "rd"
        refine x_lstL (SqL.of hi.1) fun b H3 hb k3 hb3 => ?_
        refine k b H3 hb k3 ?_
        have lt : i < d.writes.reverse.length := (List.getElem?_eq_some_iff.mp eq).1
        have e2 : d.writes.reverse.find? (fun q => decide (q.1 = n)) = some q := by
          rw [← List.take_append_drop (i + 1) d.writes.reverse, tk, List.find?_append, List.find?_append, hf]
          rw [List.find?_cons_of_pos (by exact decide_eq_true e)]; rfl
        unfold cpg
        rw [e2]
        exact hb3
      · refine ⟨_, _, rfl, rfl, ?_⟩
        rw [tk, List.find?_append, hf, List.find?_cons_of_neg (by simpa using e)]; rfl
    · rintro σ H2 ⟨u, v, rfl, rfl, hf⟩
      rw [List.length_reverse, show ws.length = d.writes.reverse.length by rw [List.length_reverse]; exact D.wp.length, List.take_length] at hf
      walk_at "rd"
      refine ⟨p, _, d, n, rfl, hD, fun b H3 hb k3 hb3 => k b H3 hb k3 ?_⟩
      unfold cpg
      rw [hf]
      exact hb3
def sp_Device_limit (c : Cl) : Sp := fun vs H Q _ => ∃ p O d s, vs = [.ref p, oV s] ∧ DevAt c H p O d ∧ ∀ H' O', DevAt c H' p O' (dLimit s d) → Stp O O' H H' → Q .non H'
theorem ok_Device_limit (T : Txt K mg c) : GM P w K mg base CX0 1 c.Device "limit" (sp_Device_limit c) := by
  obtain ⟨f, fd, F, gf, gi⟩ := T.f_Device_limit
  have tc_Device := T.cl_Device; have tn_Device_pages := T.n_Device_pages; have tn_Device_page_writes := T.n_Device_page_writes; have tn_Device_durable_log := T.n_Device_durable_log; have tn_Device_log_steps := T.n_Device_log_steps; have tn_Device_done := T.n_Device_done; have tn_Device_most := T.n_Device_most
  refine ⟨f, fd, ["self", "steps"], F.ok sc_Device_limit ?_ (fun cdv A outer s H vs Q E hr h => ?_), ⟨gf, gi, F.kp⟩, (F.binds (ps := ["self", "steps"]) fun _ _ _ _ _ _ us hl => match us, hl with | [_, _], _ => rfl)⟩
  · rintro vs H Q E ⟨_, _, _, _, rfl, _⟩
    rfl
  · obtain ⟨p, O0, d, s', rfl, hD, k⟩ := h
    obtain ⟨O, dx, a1, a2, a3, a4, kvs, ws, eO, D, og⟩ := hD.opn
    have fr : ∀ {x}, H x = none → O x := fun h => by rw [eO]; exact .inr h
    have ho := D.o
    refine ⟨_, (pss_one (ps_if (pt_cmpR o_isN (pv 1) pe_non (nomark _)) (pss_one (ps_fld (pv 0) pe_non rfl)) (pss_one (ps_fld (pv 0) (pe_op op_add (pe_fldK rfl (pv 0)) (pv 1)) rfl)))), ?_⟩
    walk_at "cx"
    cases s' with
    | none =>
      walk_at "rd"
      show rIsNQ .non .non _ _
      walk_at "rd"
      intro H1 p1 k1
      exact k H1 _ ((D.mk' (n := d.done) (m := none) k1 p1).clo eO) (Stp.nO (k1.mono F1.g) og)
    | some m =>
      walk_at "rd"
      show rIsNQ (.int m) .non _ _
      walk_at "rd"
      show rI0 (fun i j => V.int (i + j)) (.int d.done) (.int m) _ _
      walk_at "rd"
      intro H1 p1 k1
      exact k H1 _ ((D.mk' (n := d.done) (m := some (d.done + m)) k1 p1).clo eO) (Stp.nO (k1.mono F1.g) og)
def sp_Device_steps (c : Cl) : Sp := fun vs H Q _ => ∃ p O d, vs = [.ref p] ∧ DevAt c H p O d ∧ Q (.int d.done) H
theorem ok_Device_steps (T : Txt K mg c) : GM P w K mg base CX0 1 c.Device "steps" (sp_Device_steps c) := by
  obtain ⟨f, fd, F, gf, gi⟩ := T.f_Device_steps
  have tc_Device := T.cl_Device; have tn_Device_pages := T.n_Device_pages; have tn_Device_page_writes := T.n_Device_page_writes; have tn_Device_durable_log := T.n_Device_durable_log; have tn_Device_log_steps := T.n_Device_log_steps; have tn_Device_done := T.n_Device_done; have tn_Device_most := T.n_Device_most
  refine ⟨f, fd, ["self"], F.ok sc_Device_steps ?_ (fun cdv A outer s H vs Q E hr h => ?_), ⟨gf, gi, F.kp⟩, (F.binds (ps := ["self"]) fun _ _ _ _ _ _ us hl => match us, hl with | [_], _ => rfl)⟩
  · rintro vs H Q E ⟨_, _, _, rfl, _⟩
    rfl
  · obtain ⟨p, O0, d, rfl, hD, k⟩ := h
    obtain ⟨O, dx, a1, a2, a3, a4, kvs, ws, eO, D, og⟩ := hD.opn
    have fr : ∀ {x}, H x = none → O x := fun h => by rw [eO]; exact .inr h
    have ho := D.o
    refine ⟨_, (pss_one (ps_ret (pe_fldK rfl (pv 0)))), ?_⟩
    walk_at "cx"
    walk_at "rd"
    exact k
theorem okH_Device_steps (T : Txt K mg c) : GMH P w K mg base 1 c.Device "steps" (sp_Device_steps c) := by
  obtain ⟨f, fd, F, gf, gi⟩ := T.f_Device_steps
  have tc_Device := T.cl_Device; have tn_Device_pages := T.n_Device_pages; have tn_Device_page_writes := T.n_Device_page_writes; have tn_Device_durable_log := T.n_Device_durable_log; have tn_Device_log_steps := T.n_Device_log_steps; have tn_Device_done := T.n_Device_done; have tn_Device_most := T.n_Device_most
  refine ⟨f, fd, ["self"], okH F sc_Device_steps ?_ (fun cdv A outer s H vs Q E pp hc hr h => ?_), ⟨gf, gi, F.kp⟩, (F.binds (ps := ["self"]) fun _ _ _ _ _ _ us hl => match us, hl with | [_], _ => rfl)⟩
  · rintro vs H Q E ⟨_, _, _, rfl, _⟩
    rfl
  · obtain ⟨p, O0, d, rfl, hD, k⟩ := h
    obtain ⟨O, dx, a1, a2, a3, a4, kvs, ws, eO, D, og⟩ := hD.opn
    have fr : ∀ {x}, H x = none → O x := fun h => by rw [eO]; exact .inr h
    have ho := D.o
    refine ⟨_, (pss_one (ps_ret (pe_fldK rfl (pv 0)))), ?_⟩
    walk_at "cx"
    walk_at "rd"
    exact k
def sp_Device_pending (c : Cl) : Sp := fun vs H Q _ => ∃ p O d, vs = [.ref p] ∧ DevAt c H p O d ∧ ∀ b H', Kp F0 H H' → H' b = some (.tup [.int d.writes.length, .int d.steps.length]) → Q (.ref b) H'
theorem ok_Device_pending (T : Txt K mg c) : GM P w K mg base CX0 1 c.Device "pending" (sp_Device_pending c) := by
  obtain ⟨f, fd, F, gf, gi⟩ := T.f_Device_pending
  have tc_Device := T.cl_Device; have tn_Device_pages := T.n_Device_pages; have tn_Device_page_writes := T.n_Device_page_writes; have tn_Device_durable_log := T.n_Device_durable_log; have tn_Device_log_steps := T.n_Device_log_steps; have tn_Device_done := T.n_Device_done; have tn_Device_most := T.n_Device_most
  refine ⟨f, fd, ["self"], F.ok sc_Device_pending ?_ (fun cdv A outer s H vs Q E hr h => ?_), ⟨gf, gi, F.kp⟩, (F.binds (ps := ["self"]) fun _ _ _ _ _ _ us hl => match us, hl with | [_], _ => rfl)⟩
  · rintro vs H Q E ⟨_, _, _, rfl, _⟩
    rfl
  · obtain ⟨p, O0, d, rfl, hD, k⟩ := h
    obtain ⟨O, dx, a1, a2, a3, a4, kvs, ws, eO, D, og⟩ := hD.opn
    have fr : ∀ {x}, H x = none → O x := fun h => by rw [eO]; exact .inr h
    have ho := D.o
    have hw := D.wr
    have hs := D.st
    refine ⟨_, (pss_one (ps_ret (pe_tup (pa_cons (pe_callB (r := rLenQ K) c_len (by rfl) T.z_len PySem.boot_len (pa_cons (pe_fldK rfl (pv 0)) pa_nil)) (pa_cons (pe_callB (r := rLenQ K) c_len (by rfl) T.z_len PySem.boot_len (pa_cons (pe_fldK rfl (pv 0)) pa_nil)) pa_nil))))), ?_⟩
    walk_at "cx"
    walk_at "rd"
    rw [D.wp.length, List.length_map]
    refine x_newT fun b H1 hb k1 hb1 => ?_
    exact k b H1 k1 hb1
theorem okH_Device_pending (T : Txt K mg c) : GMH P w K mg base 1 c.Device "pending" (sp_Device_pending c) := by
  obtain ⟨f, fd, F, gf, gi⟩ := T.f_Device_pending
  have tc_Device := T.cl_Device; have tn_Device_pages := T.n_Device_pages; have tn_Device_page_writes := T.n_Device_page_writes; have tn_Device_durable_log := T.n_Device_durable_log; have tn_Device_log_steps := T.n_Device_log_steps; have tn_Device_done := T.n_Device_done; have tn_Device_most := T.n_Device_most
  refine ⟨f, fd, ["self"], okH F sc_Device_pending ?_ (fun cdv A outer s H vs Q E pp hc hr h => ?_), ⟨gf, gi, F.kp⟩, (F.binds (ps := ["self"]) fun _ _ _ _ _ _ us hl => match us, hl with | [_], _ => rfl)⟩
  · rintro vs H Q E ⟨_, _, _, rfl, _⟩
    rfl
  · obtain ⟨p, O0, d, rfl, hD, k⟩ := h
    obtain ⟨O, dx, a1, a2, a3, a4, kvs, ws, eO, D, og⟩ := hD.opn
    have fr : ∀ {x}, H x = none → O x := fun h => by rw [eO]; exact .inr h
    have ho := D.o
    have hw := D.wr
    have hs := D.st
    refine ⟨_, (pss_one (ps_ret (pe_tup (pa_cons (pe_callB (r := rLenQ K) c_len (by rfl) T.z_len PySem.boot_len (pa_cons (pe_fldK rfl (pv 0)) pa_nil)) (pa_cons (pe_callB (r := rLenQ K) c_len (by rfl) T.z_len PySem.boot_len (pa_cons (pe_fldK rfl (pv 0)) pa_nil)) pa_nil))))), ?_⟩
    walk_at "cx"
    walk_at "rd"
    rw [D.wp.length, List.length_map]
    refine x_newT fun b H1 hb k1 hb1 => ?_
    exact k b H1 k1 hb1
def sp_Device_crash (c : Cl) (K : PySem.W.Frag) : Sp := fun vs H Q _ => ∃ p O d l fs n, vs = [.ref p, .ref l, .int n] ∧ 0 ≤ n ∧ DevAt c H p O d ∧ SqL K H l (fs.map V.int) ∧ ¬ O l ∧ Sml d ∧ ∀ H' O', DevAt c H' p O' (dCrash fs n.toNat d) → Stp O O' H H' → Q .non H'
theorem cut_take {ss : List (Option Int)} {j : Int} (h0 : 0 ≤ j) : cutV (ss.map oV) none (some j) = (ss.take j.toNat).map oV := by
  obtain ⟨k, rfl⟩ := Int.eq_ofNat_of_zero_le h0
  unfold cutV
  rw [HT.sIx_none, HT.sIx_nat]
  simp only [List.drop_zero, Nat.sub_zero, List.length_map, List.map_take, Int.toNat_natCast]
  by_cases q : k ≤ ss.length
  · rw [show min k ss.length = k by omega]
  · rw [show min k ss.length = ss.length by omega, List.take_of_length_le (by simp), List.take_of_length_le (by simp; omega)]
theorem dFates_len : ∀ (l : List ((Int × List Int) × Int)) (pages : List (Int × List Int)), (l.foldl dFate pages).length ≤ pages.length + l.length
  | [], _ => Nat.le_refl _
  | q :: l, pages => by
    have h1 := dFates_len l (dFate pages q)
    have h2 : (dFate pages q).length ≤ pages.length + 1 := by
      unfold dFate
      split
      · exact aput_len _ _ _
      · split
        · exact aput_len _ _ _
        · exact Nat.le_succ _
    show (l.foldl dFate (dFate pages q)).length ≤ pages.length + (l.length + 1)
    omega
theorem cut_half_to (a : List Int) : cutV (a.map V.int) none (some 128) = (a.take 128).map V.int := by
  unfold cutV
  rw [HT.sIx_none, show (128 : Int) = ((128 : Nat) : Int) from rfl, HT.sIx_nat]
  simp only [List.drop_zero, Nat.sub_zero, List.length_map, List.map_take]
  by_cases q : 128 ≤ a.length
  · rw [show min 128 a.length = 128 by omega]
  · rw [show min 128 a.length = a.length by omega, List.take_of_length_le (by simp), List.take_of_length_le (by simp; omega)]
theorem cut_half_from (a : List Int) : cutV (a.map V.int) (some 128) none = (a.drop 128).map V.int := by
  unfold cutV
  rw [HT.sIx_none, show (128 : Int) = ((128 : Nat) : Int) from rfl, HT.sIx_nat]
  simp only [List.length_map, List.map_drop]
  by_cases q : 128 ≤ a.length
  · rw [show min 128 a.length = 128 by omega, List.take_of_length_le (by simp)]
  · rw [List.drop_eq_nil_of_le (by simp; omega), List.drop_eq_nil_of_le (by simp; omega)]; simp
/-- a page put into the dict -/
theorem DevA.put {O : Addr → Prop} {H H' : Hp} {p dx a1 a2 a3 a4 l : Addr} {kvs : List (Key × V)} {ws : List V} {d : DevS} {n : Int} {ds : List Int} (D : DevA c O H p dx a1 a2 a3 a4 kvs ws d) (i : Im H O (DevG p a1 a2 a4) l ds) (k3 : Kp (F1 a1) H H') (h : H' a1 = some (.dK (putK kvs (.inl n) (.ref l)))) :
    DevA c O H' p dx a1 a2 a3 a4 (putK kvs (.inl n) (.ref l)) ws { d with pages := aput d.pages n ds } := by
  have sub : ∀ x, F1 a1 x → DevG p a1 a2 a4 x := fun x z => .inr (.inl z)
  exact ⟨k3.get D.o D.np1, h, put_pr RPg.key ⟨rfl, l, rfl, i.kp k3 sub⟩ (Paired.mono (fun _ _ r => r.kp k3 sub) D.pr), k3.get D.wr D.n12.symm, Paired.mono (fun _ _ r => r.kp k3 sub) D.wp, D.lg.kp k3 sub, k3.get D.st D.n14.symm, D.ne, D.ow⟩
theorem ok_Device_crash (T : Txt K mg c) : GM P w K mg base CX0 2 c.Device "crash" (sp_Device_crash c K) := by
  obtain ⟨f, fd, F, gf, gi⟩ := T.f_Device_crash
  obtain ⟨_, mg_HALF⟩ := T.m_HALF
  have tc_Device := T.cl_Device; have tn_Device_pages := T.n_Device_pages; have tn_Device_page_writes := T.n_Device_page_writes; have tn_Device_durable_log := T.n_Device_durable_log; have tn_Device_log_steps := T.n_Device_log_steps; have tn_Device_done := T.n_Device_done; have tn_Device_most := T.n_Device_most
  refine ⟨f, fd, ["self", "fates", "kept"], F.ok sc_Device_crash ?_ (fun cdv A outer s H vs Q E hr h => ?_), ⟨gf, gi, F.kp⟩, (F.binds (ps := ["self", "fates", "kept"]) fun _ _ _ _ _ _ us hl => match us, hl with | [_, _, _], _ => rfl)⟩
  · rintro vs H Q E ⟨_, _, _, _, _, _, rfl, _⟩
    rfl
  · obtain ⟨p, O0, d, l, fs, n, rfl, hn, hD, hl, nl, sm, k⟩ := h
    obtain ⟨O, dx, a1, a2, a3, a4, kvs, ws, eO, D, og⟩ := hD.opn
    have fr : ∀ {x}, H x = none → O x := fun h => by rw [eO]; exact .inr h
    have ho := D.o
    have hw := D.wr
    have lw : ws.length = d.writes.length := D.wp.length
    have := sm.1
    have := sm.2.1
    refine ⟨_, (pss_cons (ps_for PassesOwn.never rfl (pi_range1 (by rfl) T.z_range (pa_cons (pe_callB (c_min2 rfl) (by rfl) T.z_min (by decide +kernel) (pa_cons (pe_callB (r := rLenQ K) c_len (by rfl) T.z_len PySem.boot_len (pa_cons (pv 1) pa_nil)) (pa_cons (pe_callB (r := rLenQ K) c_len (by rfl) T.z_len PySem.boot_len (pa_cons (pe_fldK rfl (pv 0)) pa_nil)) pa_nil))) pa_nil)) (pg_name (i := 3) sc_Device_crash.nd rfl (Or.inl rfl)) (pss_cons (ps_asg (pe_ix (r := rIxL K) ix_list (pe_fldK rfl (pv 0)) (pv 3) (fun _ _ => rfl)) (pg_kT rfl (pg_tup (n := 2) rfl (pgs_cons (pg_name (i := 4) sc_Device_crash.nd rfl (Or.inl rfl)) (pgs_cons (pg_name (i := 5) sc_Device_crash.nd rfl (Or.inl rfl)) pgs_nil)))))
      (pss_one (ps_if (pt_cmpR op_eq (pe_ix (r := rIxL K) ix_list (pv 1) (pv 3) (fun _ _ => rfl)) pe_int (nomark _)) (pss_one (ps_dput (hu_of hr) (pe_fldK rfl (pv 0)) (pv 4) (pv 5) rfl)) (pss_one (ps_if (pt_cmpR op_eq (pe_ix (r := rIxL K) ix_list (pv 1) (pv 3) (fun _ _ => rfl)) pe_int (nomark _)) (pss_one (ps_dput (hu_of hr) (pe_fldK rfl (pv 0)) (pv 4) (pe_op op_cat (pe_slice (r := rSlL K) sl_list (pv 5) po_none (po_some (pe_glob (v := .int 128) rfl mg_HALF ⟨_, rfl⟩))) (pe_slice (r := rSlL K) sl_list (pe_gm T.cl_Device (ok_Device_durable_page T) (pv 0) (hr.mono (by decide)) pass0S (pa_cons (pv 4) pa_nil)) (po_some (pe_glob (v := .int 128) rfl mg_HALF ⟨_, rfl⟩)) po_none)) rfl)) pss_nil))))))
      (pss_cons (ps_fld (pv 0) (pe_lst pa_nil) rfl)
      (pss_cons (ps_fld (pv 0) (pe_slice (r := rSlL K) sl_list (pe_fldK rfl (pv 0)) po_none (po_some (pv 2))) rfl)
      (pss_cons (ps_fld (pv 0) (pe_gm0 T.cl_Device (ok_Device_log T) (pv 0) (hr.mono (by decide)) pass0S) rfl)
      (pss_cons (ps_fld (pv 0) (pe_lst pa_nil) rfl)
      (pss_one (ps_fld (pv 0) pe_non rfl))))))), ?_⟩
    walk_at "cx"
    walk_at "rd"
    rw [lw, List.length_map]
    walk_at "rd"
    refine wfor Wk.rng (fun i σ H' => ∃ kvs' u v w, σ = [some (.ref p), some (.ref l), some (.int n), u, v, w] ∧ DevA c O H' p dx a1 a2 a3 a4 kvs' ws { d with pages := ((d.writes.zip fs).take i).foldl dFate d.pages } ∧ Kp (DevG p a1 a2 a4) H H')
      ⟨kvs, none, none, none, rfl, D, Kp.refl _⟩ (fun _ _ _ _ => trivial) ?_ ?_
    · rintro i x σ H2 ex ⟨kvs', u, v, w, rfl, D2, kk⟩
      obtain ⟨hi, rfl⟩ := rgl_at ex
      have i1 : i < fs.length := by omega
      have i2 : i < d.writes.length := by omega
      have ho2 := D2.o
      have hw2 := D2.wr
      have hl2 := kk.sqL hl fun z => nl (og _ z)
      have hwi : ws[i]? = some ws[i] := List.getElem?_eq_getElem (by omega)
      obtain ⟨q, eq, t, a, ew, ht, hi2⟩ := pget D2.wp hwi
      have eq' : d.writes[i]? = some q := eq
      have eqg : d.writes[i] = q := (List.getElem?_eq_some_iff.mp eq').2
      have hfi := at_of_lt i1
      have gfi : fs.getD i 0 = fs[i] := by rw [List.getD_eq_getElem?_getD, List.getElem?_eq_getElem i1]; rfl
      have tk : ((d.writes.zip fs).take (i + 1)).foldl dFate d.pages = dFate (((d.writes.zip fs).take i).foldl dFate d.pages) (q, fs.getD i 0) := by
        have z : (d.writes.zip fs)[i]? = some (q, fs.getD i 0) := by
          rw [List.getElem?_zip_eq_some]; exact ⟨eq', by rw [gfi]; exact List.getElem?_eq_getElem i1⟩
        rw [List.take_succ, z, List.foldl_append]; rfl
      have pl := dFates_len ((d.writes.zip fs).take i) d.pages
      have pl2 : ((d.writes.zip fs).take i).length ≤ d.writes.length := by rw [List.length_take, List.length_zip]; omega
      have pl3 : kvs'.length = (((d.writes.zip fs).take i).foldl dFate d.pages).length := D2.pr.length
      walk_at "rd"
      refine x_ixL (SqL.of hw2) (atI_at i (by omega) hwi) ?_
      rw [ew]
      walk_at "rd"
      refine x_ixL hl2 (atI_at i (by omega) hfi) ?_
      walk_at "rd"
      have hp2 := D2.pg
      have n1 : ∀ {z : Int}, fs.getD i 0 = z → z ≠ 1 → z ≠ 2 → dFate (((d.writes.zip fs).take i).foldl dFate d.pages) (q, fs.getD i 0) = ((d.writes.zip fs).take i).foldl dFate d.pages := fun e h1 h2 => by
        unfold dFate; rw [if_neg (by rw [e]; exact h1), if_neg (by rw [e]; exact h2)]
      refine ite_dec (fun e => ?_) fun e => ?_
      · walk_at "rd"
        refine x_dpI hp2 (by omega) fun H3 hp3 k3 => ?_
        refine ⟨putK kvs' (.inl q.1) (.ref a), _, _, _, rfl, ?_, kk.trans k3 fun x z => .inl (.inr (.inl z))⟩
        rw [tk, show dFate (((d.writes.zip fs).take i).foldl dFate d.pages) (q, fs.getD i 0) = aput (((d.writes.zip fs).take i).foldl dFate d.pages) q.1 q.2 by unfold dFate; rw [if_pos e]]
        exact D2.put hi2 k3 hp3
      · walk_at "rd"
        refine x_ixL hl2 (atI_at i (by omega) hfi) ?_
        walk_at "rd"
        refine ite_dec (fun e2 => ?_) fun e2 => ?_
        · walk_at "rd"
          refine x_slL (SqL.of hi2.1) fun s1 H3 hs1 k3 hs13 => ?_
          rw [cut_half_to] at hs13
          have D3 := D2.same k3
          have ho3 := D3.o
          walk_at "rd"
          refine ⟨p, _, _, q.1, rfl, D3.clo eO, fun s2 H4 hs2 k4 hs24 => ?_⟩
          walk_at "rd"
          refine x_slL (SqL.of hs24) fun s3 H5 hs3 k5 hs35 => ?_
          rw [cut_half_from] at hs35
          have hs15 := k5.get (k4.get hs13 id) id
          walk_at "rd"
          refine x_catL hs15 hs35 (by
            rw [List.length_map, List.length_map, List.length_take, List.length_drop, sizeLine_eq]
            have : (dpg { d with pages := ((d.writes.zip fs).take i).foldl dFate d.pages } q.1).length ≤ 256 := aget_sz (dFates_sz sm.2.2.2.1 fun q hq => sm.2.2.2.2 q.1 (List.of_mem_zip (List.mem_of_mem_take hq)).1)
            have : q.2.length ≤ 256 := sm.2.2.2.2 q (List.mem_of_getElem? eq')
            omega) fun s4 H6 hs4 k6 hs46 => ?_
          rw [← List.map_append] at hs46
          have D6 := ((D3.same k4).same k5).same k6
          have ho6 := D6.o
          have hp6 := D6.pg
          walk_at "rd"
          refine x_dpI hp6 (by omega) fun H7 hp7 k7 => ?_
          have kz : Kp F0 H2 H6 := ((k3.trans k4 fun _ z => z.elim).trans k5 fun _ z => z.elim).trans k6 fun _ z => z.elim
          refine ⟨putK kvs' (.inl q.1) (.ref s4), _, _, _, rfl, ?_, (kk.trans kz fun _ z => z.elim).trans k7 fun x z => .inl (.inr (.inl z))⟩
          rw [tk, show dFate (((d.writes.zip fs).take i).foldl dFate d.pages) (q, fs.getD i 0) = aput (((d.writes.zip fs).take i).foldl dFate d.pages) q.1 (q.2.take 128 ++ ((aget (((d.writes.zip fs).take i).foldl dFate d.pages) q.1).getD zeros).drop 128) by unfold dFate; rw [if_neg e, if_pos e2]]
          exact D6.put ⟨hs46, fr (kk.free (k3.free (k4.free (k5.free hs4 id) id) id) ((((D3.same k4).same k5)).fresh hs4)), (((D3.same k4).same k5)).fresh hs4⟩ k7 hp7
        · refine ⟨kvs', _, _, _, rfl, ?_, kk⟩
          rw [tk, n1 rfl e e2]
          exact D2
    · rintro σ H2 ⟨kvs', u, v, w, rfl, D2, kk⟩
      have et : (d.writes.zip fs).take (rgl 0 (min (fs.length : Int) (d.writes.length : Int)).toNat).length = d.writes.zip fs := List.take_of_length_le (by rw [rgl_len, List.length_zip]; omega)
      rw [et] at D2
      have ho2 := D2.o
      walk_at "rd"
      refine x_newL fun b H3 hb k3 hb3 => ?_
      have D3 := D2.same k3
      have ho3 := D3.o
      have nb := D2.fresh hb
      have nbp : b ≠ p := fun z => nb (.inl z)
      have nb1 : b ≠ a1 := fun z => nb (.inr (.inl z))
      have nb4 : b ≠ a4 := fun z => nb (.inr (.inr (.inr z)))
      walk_at "rd"
      intro H4 p4 k4
      have D4 : DevA c O H4 p dx a1 b a3 a4 kvs' [] { d with pages := (d.writes.zip fs).foldl dFate d.pages, writes := [] } := by
        have im : ∀ a ds, Im H2 O (DevG p a1 a2 a4) a ds → Im H4 O (DevG p a1 b a4) a ds := fun a ds i => ⟨k4.get (k3.get i.1 id) fun z => i.2.2 (.inl z), i.2.1, by
          rintro (z | z | z | z)
          · exact i.2.2 (.inl z)
          · exact i.2.2 (.inr (.inl z))
          · exact ne_of_none i.1 hb z
          · exact i.2.2 (.inr (.inr (.inr z)))⟩
        exact ⟨p4, k4.get D3.pg D3.np1.symm, Paired.mono (fun _ _ r => r.im im) D2.pr, k4.get hb3 nbp, .nil, im _ _ D2.lg, k4.get D3.st D3.np4.symm, nb4, by
          rintro x (z | z | z | z)
          · exact D.ow _ (.inl z)
          · exact D.ow _ (.inr (.inl z))
          · rw [z]; exact fr (kk.free hb nb)
          · exact D.ow _ (.inr (.inr (.inr z)))⟩
      have ho4 := D4.o
      have hs4 := D4.st
      walk_at "rd"
      refine x_slL (SqL.of hs4) fun s1 H5 hs1 k5 hs15 => ?_
      rw [cut_take hn] at hs15
      have D5 := D4.same k5
      have ho5 := D5.o
      have ns1p : s1 ≠ p := fun z => D4.fresh hs1 (.inl z)
      walk_at "rd"
      intro H6 p6 k6
      have k46 : Kp (F1 p) H4 H6 := (k5.mono fun _ z => z.elim).trans k6 fun _ z => .inl z
      have ns1 := D4.fresh hs1
      have k24 : Kp (DevG p a1 a2 a4) H2 H4 := (k3.mono fun _ z => z.elim).trans k4 fun _ z => .inl (.inl z)
      have f4 : ∀ x, H4 x = none → H x = none := fun x hx => by
        by_cases q : DevG p a1 a2 a4 x
        · obtain ⟨o, ho⟩ := D2.trk q
          by_cases e : x = p
          · rw [e, p4] at hx; cases hx
          · rw [k4.get (k3.get ho id) e] at hx; cases hx
        · exact kk.free (k24.free hx q) q
      have fs1 := f4 _ hs1
      have n3 : ¬ DevG p a1 b s1 a3 := by
        rintro (z | z | z | z)
        · exact D4.lg.2.2 (.inl z)
        · exact D4.lg.2.2 (.inr (.inl z))
        · exact D4.lg.2.2 (.inr (.inr (.inl z)))
        · exact ne_of_none D4.lg.1 hs1 z
      have D6 : DevA c O H6 p dx a1 b a3 s1 kvs' [] { pages := (d.writes.zip fs).foldl dFate d.pages, writes := [], log := d.log, steps := d.steps.take n.toNat, done := d.done, most := d.most } :=
        D4.newL (lg := d.log) (sl := d.steps.take n.toNat) hs1 k46 p6 (k46.get D4.lg.1 fun z => D4.lg.2.2 (.inl z)) (k6.get hs15 ns1p) n3 D4.lg.2.1 (fr fs1)
      have ho6 := D6.o
      walk_at "rd"
      refine ⟨p, _, _, rfl, D6.clo eO, ?_, fun g H7 hg k7 hg7 => ?_⟩
      · refine ⟨Nat.zero_le _, ?_, ?_, dFates_sz sm.2.2.2.1 fun q hq => sm.2.2.2.2 q.1 (List.of_mem_zip hq).1, fun q hq => by cases hq⟩
        · have h1 := dFates_len (d.writes.zip fs) d.pages
          have h2 : (d.writes.zip fs).length ≤ d.writes.length := by rw [List.length_zip]; omega
          show ((d.writes.zip fs).foldl dFate d.pages).length + 0 ≤ 2000000
          have := sm.2.1
          omega
        · have h1 := sm.2.2.1
          show d.log.length + (d.steps.take n.toNat).length ≤ 8000000
          rw [List.length_take]; omega
      have D7 := D6.same k7
      have ho7 := D7.o
      have ngp : g ≠ p := fun z => D6.fresh hg (.inl z)
      walk_at "rd"
      intro H8 p8 k8
      have hg8 := k8.get hg7 ngp
      walk_at "rd"
      refine x_newL fun e H9 he k9 he9 => ?_
      have nep : e ≠ p := fun z => by rw [z, p8] at he; cases he
      have nge : g ≠ e := ne_of_none hg8 he
      walk_at "rd"
      intro H10 p10 k10
      walk_at "rd"
      intro H11 p11 k11
      have kl : Kp (F1 p) H6 H11 := ((((k7.mono fun _ z => z.elim).trans k8 fun _ z => .inl z).trans k9 fun _ z => z.elim).trans k10 fun _ z => .inl z).trans k11 fun _ z => .inl z
      have he6 : H6 e = none := k7.free (k8.free he nep) id
      have D11 : DevA c O H11 p dx a1 b g e kvs' [] (dCrash fs n.toNat d) := D6.newL (lg := (d.steps.take n.toNat).foldl lstep d.log) (sl := []) (n := d.done) (mo := none) he6 kl p11 (k11.get (k10.get (k9.get hg8 id) ngp) ngp) (k11.get (k10.get he9 nep) nep) (by
        rintro (z | z | z | z)
        · exact ngp z
        · exact D6.fresh hg (.inr (.inl z))
        · exact D6.fresh hg (.inr (.inr (.inl z)))
        · exact nge z) (fr (f4 _ (k46.free hg ngp))) (fr (f4 _ (k46.free he6 nep)))
      have k26 : Kp (DevG p a1 a2 a4) H2 H6 := k24.trans k46 fun _ z => .inl (.inl z)
      exact k H11 _ (D11.clo eO) (Stp.nO (G := DevG p a1 a2 a4) (kk.trans (k26.trans kl fun _ z => .inl (.inl z)) fun _ z => .inl z) og)
theorem okH_Device_crash (T : Txt K mg c) : GMH P w K mg base 2 c.Device "crash" (sp_Device_crash c K) := by
  obtain ⟨f, fd, F, gf, gi⟩ := T.f_Device_crash
  obtain ⟨_, mg_HALF⟩ := T.m_HALF
  have tc_Device := T.cl_Device; have tn_Device_pages := T.n_Device_pages; have tn_Device_page_writes := T.n_Device_page_writes; have tn_Device_durable_log := T.n_Device_durable_log; have tn_Device_log_steps := T.n_Device_log_steps; have tn_Device_done := T.n_Device_done; have tn_Device_most := T.n_Device_most
  refine ⟨f, fd, ["self", "fates", "kept"], okH F sc_Device_crash ?_ (fun cdv A outer s H vs Q E pp hc hr h => ?_), ⟨gf, gi, F.kp⟩, (F.binds (ps := ["self", "fates", "kept"]) fun _ _ _ _ _ _ us hl => match us, hl with | [_, _, _], _ => rfl)⟩
  · rintro vs H Q E ⟨_, _, _, _, _, _, rfl, _⟩
    rfl
  · obtain ⟨p, O0, d, l, fs, n, rfl, hn, hD, hl, nl, sm, k⟩ := h
    obtain ⟨O, dx, a1, a2, a3, a4, kvs, ws, eO, D, og⟩ := hD.opn
    have fr : ∀ {x}, H x = none → O x := fun h => by rw [eO]; exact .inr h
    have ho := D.o
    have hw := D.wr
    have lw : ws.length = d.writes.length := D.wp.length
    have := sm.1
    have := sm.2.1
    refine ⟨_, (pss_cons (L2H.ps_forH PassesOwn.never hc (L2H.pi_range1H (by rfl) T.z_range (pa_cons (pe_callB (c_min2H hc) (by rfl) T.z_min (by decide +kernel) (pa_cons (pe_callB (r := rLenQ K) c_len (by rfl) T.z_len PySem.boot_len (pa_cons (pv 1) pa_nil)) (pa_cons (pe_callB (r := rLenQ K) c_len (by rfl) T.z_len PySem.boot_len (pa_cons (pe_fldK rfl (pv 0)) pa_nil)) pa_nil))) pa_nil)) (pg_name (i := 3) sc_Device_crash.nd rfl (Or.inl rfl)) (pss_cons (ps_asg (pe_ix (r := rIxL K) ix_list (pe_fldK rfl (pv 0)) (pv 3) (fun _ _ => rfl)) ((pg_tupH (n := 2) rfl hc (pgs_cons (pg_name (i := 4) sc_Device_crash.nd rfl (Or.inl rfl)) (pgs_cons (pg_name (i := 5) sc_Device_crash.nd rfl (Or.inl rfl)) pgs_nil)))))
      (pss_one (ps_if (pt_cmpR op_eq (pe_ix (r := rIxL K) ix_list (pv 1) (pv 3) (fun _ _ => rfl)) pe_int (nomark _)) (pss_one (ps_dput (huH hr) (pe_fldK rfl (pv 0)) (pv 4) (pv 5) rfl)) (pss_one (ps_if (pt_cmpR op_eq (pe_ix (r := rIxL K) ix_list (pv 1) (pv 3) (fun _ _ => rfl)) pe_int (nomark _)) (pss_one (ps_dput (huH hr) (pe_fldK rfl (pv 0)) (pv 4) (pe_op op_cat (pe_slice (r := rSlL K) sl_list (pv 5) po_none (po_some (pe_glob (v := .int 128) rfl mg_HALF ⟨_, rfl⟩))) (pe_slice (r := rSlL K) sl_list (pe_gmH T.cl_Device (okH_Device_durable_page T) (pv 0) (hr.mono (by decide)) hc (pa_cons (pv 4) pa_nil)) (po_some (pe_glob (v := .int 128) rfl mg_HALF ⟨_, rfl⟩)) po_none)) rfl)) pss_nil))))))
      (pss_cons (ps_fld (pv 0) (pe_lst pa_nil) rfl)
      (pss_cons (ps_fld (pv 0) (pe_slice (r := rSlL K) sl_list (pe_fldK rfl (pv 0)) po_none (po_some (pv 2))) rfl)
      (pss_cons (ps_fld (pv 0) (pe_gmH0 T.cl_Device (okH_Device_log T) (pv 0) (hr.mono (by decide)) hc) rfl)
      (pss_cons (ps_fld (pv 0) (pe_lst pa_nil) rfl)
      (pss_one (ps_fld (pv 0) pe_non rfl))))))), ?_⟩
    walk_at "cx"
    walk_at "rd"
    rw [lw, List.length_map]
    walk_at "rd"
    refine wfor Wk.rng (fun i σ H' => ∃ kvs' u v w, σ = [some (.ref p), some (.ref l), some (.int n), u, v, w] ∧ DevA c O H' p dx a1 a2 a3 a4 kvs' ws { d with pages := ((d.writes.zip fs).take i).foldl dFate d.pages } ∧ Kp (DevG p a1 a2 a4) H H')
      ⟨kvs, none, none, none, rfl, D, Kp.refl _⟩ (fun _ _ _ _ => trivial) ?_ ?_
    · rintro i x σ H2 ex ⟨kvs', u, v, w, rfl, D2, kk⟩
      obtain ⟨hi, rfl⟩ := rgl_at ex
      have i1 : i < fs.length := by omega
      have i2 : i < d.writes.length := by omega
      have ho2 := D2.o
      have hw2 := D2.wr
      have hl2 := kk.sqL hl fun z => nl (og _ z)
      have hwi : ws[i]? = some ws[i] := List.getElem?_eq_getElem (by omega)
      obtain ⟨q, eq, t, a, ew, ht, hi2⟩ := pget D2.wp hwi
      have eq' : d.writes[i]? = some q := eq
      have eqg : d.writes[i] = q := (List.getElem?_eq_some_iff.mp eq').2
      have hfi := at_of_lt i1
      have gfi : fs.getD i 0 = fs[i] := by rw [List.getD_eq_getElem?_getD, List.getElem?_eq_getElem i1]; rfl
      have tk : ((d.writes.zip fs).take (i + 1)).foldl dFate d.pages = dFate (((d.writes.zip fs).take i).foldl dFate d.pages) (q, fs.getD i 0) := by
        have z : (d.writes.zip fs)[i]? = some (q, fs.getD i 0) := by
          rw [List.getElem?_zip_eq_some]; exact ⟨eq', by rw [gfi]; exact List.getElem?_eq_getElem i1⟩
        rw [List.take_succ, z, List.foldl_append]; rfl
      have pl := dFates_len ((d.writes.zip fs).take i) d.pages
      have pl2 : ((d.writes.zip fs).take i).length ≤ d.writes.length := by rw [List.length_take, List.length_zip]; omega
      have pl3 : kvs'.length = (((d.writes.zip fs).take i).foldl dFate d.pages).length := D2.pr.length
      walk_at "rd"
      refine x_ixL (SqL.of hw2) (atI_at i (by omega) hwi) ?_
      rw [ew]
      walk_at "rd"
      refine x_ixL hl2 (atI_at i (by omega) hfi) ?_
      walk_at "rd"
      have hp2 := D2.pg
      have n1 : ∀ {z : Int}, fs.getD i 0 = z → z ≠ 1 → z ≠ 2 → dFate (((d.writes.zip fs).take i).foldl dFate d.pages) (q, fs.getD i 0) = ((d.writes.zip fs).take i).foldl dFate d.pages := fun e h1 h2 => by
        unfold dFate; rw [if_neg (by rw [e]; exact h1), if_neg (by rw [e]; exact h2)]
      refine ite_dec (fun e => ?_) fun e => ?_
      · walk_at "rd"
        refine x_dpI hp2 (by omega) fun H3 hp3 k3 => ?_
        refine ⟨putK kvs' (.inl q.1) (.ref a), _, _, _, rfl, ?_, kk.trans k3 fun x z => .inl (.inr (.inl z))⟩
        rw [tk, show dFate (((d.writes.zip fs).take i).foldl dFate d.pages) (q, fs.getD i 0) = aput (((d.writes.zip fs).take i).foldl dFate d.pages) q.1 q.2 by unfold dFate; rw [if_pos e]]
        exact D2.put hi2 k3 hp3
      · walk_at "rd"
        refine x_ixL hl2 (atI_at i (by omega) hfi) ?_
        walk_at "rd"
        refine ite_dec (fun e2 => ?_) fun e2 => ?_
        · walk_at "rd"
          refine x_slL (SqL.of hi2.1) fun s1 H3 hs1 k3 hs13 => ?_
          rw [cut_half_to] at hs13
          have D3 := D2.same k3
          have ho3 := D3.o
          walk_at "rd"
          refine ⟨p, _, _, q.1, rfl, D3.clo eO, fun s2 H4 hs2 k4 hs24 => ?_⟩
          walk_at "rd"
          refine x_slL (SqL.of hs24) fun s3 H5 hs3 k5 hs35 => ?_
          rw [cut_half_from] at hs35
          have hs15 := k5.get (k4.get hs13 id) id
          walk_at "rd"
          refine x_catL hs15 hs35 (by
            rw [List.length_map, List.length_map, List.length_take, List.length_drop, sizeLine_eq]
            have : (dpg { d with pages := ((d.writes.zip fs).take i).foldl dFate d.pages } q.1).length ≤ 256 := aget_sz (dFates_sz sm.2.2.2.1 fun q hq => sm.2.2.2.2 q.1 (List.of_mem_zip (List.mem_of_mem_take hq)).1)
            have : q.2.length ≤ 256 := sm.2.2.2.2 q (List.mem_of_getElem? eq')
            omega) fun s4 H6 hs4 k6 hs46 => ?_
          rw [← List.map_append] at hs46
          have D6 := ((D3.same k4).same k5).same k6
          have ho6 := D6.o
          have hp6 := D6.pg
          walk_at "rd"
          refine x_dpI hp6 (by omega) fun H7 hp7 k7 => ?_
          have kz : Kp F0 H2 H6 := ((k3.trans k4 fun _ z => z.elim).trans k5 fun _ z => z.elim).trans k6 fun _ z => z.elim
          refine ⟨putK kvs' (.inl q.1) (.ref s4), _, _, _, rfl, ?_, (kk.trans kz fun _ z => z.elim).trans k7 fun x z => .inl (.inr (.inl z))⟩
          rw [tk, show dFate (((d.writes.zip fs).take i).foldl dFate d.pages) (q, fs.getD i 0) = aput (((d.writes.zip fs).take i).foldl dFate d.pages) q.1 (q.2.take 128 ++ ((aget (((d.writes.zip fs).take i).foldl dFate d.pages) q.1).getD zeros).drop 128) by unfold dFate; rw [if_neg e, if_pos e2]]
          exact D6.put ⟨hs46, fr (kk.free (k3.free (k4.free (k5.free hs4 id) id) id) ((((D3.same k4).same k5)).fresh hs4)), (((D3.same k4).same k5)).fresh hs4⟩ k7 hp7
        · refine ⟨kvs', _, _, _, rfl, ?_, kk⟩
          rw [tk, n1 rfl e e2]
          exact D2
    · rintro σ H2 ⟨kvs', u, v, w, rfl, D2, kk⟩
      have et : (d.writes.zip fs).take (rgl 0 (min (fs.length : Int) (d.writes.length : Int)).toNat).length = d.writes.zip fs := List.take_of_length_le (by rw [rgl_len, List.length_zip]; omega)
      rw [et] at D2
      have ho2 := D2.o
      walk_at "rd"
      refine x_newL fun b H3 hb k3 hb3 => ?_
      have D3 := D2.same k3
      have ho3 := D3.o
      have nb := D2.fresh hb
      have nbp : b ≠ p := fun z => nb (.inl z)
      have nb1 : b ≠ a1 := fun z => nb (.inr (.inl z))
      have nb4 : b ≠ a4 := fun z => nb (.inr (.inr (.inr z)))
      walk_at "rd"
      intro H4 p4 k4
      have D4 : DevA c O H4 p dx a1 b a3 a4 kvs' [] { d with pages := (d.writes.zip fs).foldl dFate d.pages, writes := [] } := by
        have im : ∀ a ds, Im H2 O (DevG p a1 a2 a4) a ds → Im H4 O (DevG p a1 b a4) a ds := fun a ds i => ⟨k4.get (k3.get i.1 id) fun z => i.2.2 (.inl z), i.2.1, by
          rintro (z | z | z | z)
          · exact i.2.2 (.inl z)
          · exact i.2.2 (.inr (.inl z))
          · exact ne_of_none i.1 hb z
          · exact i.2.2 (.inr (.inr (.inr z)))⟩
        exact ⟨p4, k4.get D3.pg D3.np1.symm, Paired.mono (fun _ _ r => r.im im) D2.pr, k4.get hb3 nbp, .nil, im _ _ D2.lg, k4.get D3.st D3.np4.symm, nb4, by
          rintro x (z | z | z | z)
          · exact D.ow _ (.inl z)
          · exact D.ow _ (.inr (.inl z))
          · rw [z]; exact fr (kk.free hb nb)
          · exact D.ow _ (.inr (.inr (.inr z)))⟩
      have ho4 := D4.o
      have hs4 := D4.st
      walk_at "rd"
      refine x_slL (SqL.of hs4) fun s1 H5 hs1 k5 hs15 => ?_
      rw [cut_take hn] at hs15
      have D5 := D4.same k5
      have ho5 := D5.o
      have ns1p : s1 ≠ p := fun z => D4.fresh hs1 (.inl z)
      walk_at "rd"
      intro H6 p6 k6
      have k46 : Kp (F1 p) H4 H6 := (k5.mono fun _ z => z.elim).trans k6 fun _ z => .inl z
      have ns1 := D4.fresh hs1
      have k24 : Kp (DevG p a1 a2 a4) H2 H4 := (k3.mono fun _ z => z.elim).trans k4 fun _ z => .inl (.inl z)
      have f4 : ∀ x, H4 x = none → H x = none := fun x hx => by
        by_cases q : DevG p a1 a2 a4 x
        · obtain ⟨o, ho⟩ := D2.trk q
          by_cases e : x = p
          · rw [e, p4] at hx; cases hx
          · rw [k4.get (k3.get ho id) e] at hx; cases hx
        · exact kk.free (k24.free hx q) q
      have fs1 := f4 _ hs1
      have n3 : ¬ DevG p a1 b s1 a3 := by
        rintro (z | z | z | z)
        · exact D4.lg.2.2 (.inl z)
        · exact D4.lg.2.2 (.inr (.inl z))
        · exact D4.lg.2.2 (.inr (.inr (.inl z)))
        · exact ne_of_none D4.lg.1 hs1 z
      have D6 : DevA c O H6 p dx a1 b a3 s1 kvs' [] { pages := (d.writes.zip fs).foldl dFate d.pages, writes := [], log := d.log, steps := d.steps.take n.toNat, done := d.done, most := d.most } :=
        D4.newL (lg := d.log) (sl := d.steps.take n.toNat) hs1 k46 p6 (k46.get D4.lg.1 fun z => D4.lg.2.2 (.inl z)) (k6.get hs15 ns1p) n3 D4.lg.2.1 (fr fs1)
      have ho6 := D6.o
      walk_at "rd"
      refine ⟨p, _, _, rfl, D6.clo eO, ?_, fun g H7 hg k7 hg7 => ?_⟩
      · refine ⟨Nat.zero_le _, ?_, ?_, dFates_sz sm.2.2.2.1 fun q hq => sm.2.2.2.2 q.1 (List.of_mem_zip hq).1, fun q hq => by cases hq⟩
        · have h1 := dFates_len (d.writes.zip fs) d.pages
          have h2 : (d.writes.zip fs).length ≤ d.writes.length := by rw [List.length_zip]; omega
          show ((d.writes.zip fs).foldl dFate d.pages).length + 0 ≤ 2000000
          have := sm.2.1
          omega
        · have h1 := sm.2.2.1
          show d.log.length + (d.steps.take n.toNat).length ≤ 8000000
          rw [List.length_take]; omega
      have D7 := D6.same k7
      have ho7 := D7.o
      have ngp : g ≠ p := fun z => D6.fresh hg (.inl z)
      walk_at "rd"
      intro H8 p8 k8
      have hg8 := k8.get hg7 ngp
      walk_at "rd"
      refine x_newL fun e H9 he k9 he9 => ?_
      have nep : e ≠ p := fun z => by rw [z, p8] at he; cases he
      have nge : g ≠ e := ne_of_none hg8 he
      walk_at "rd"
      intro H10 p10 k10
      walk_at "rd"
      intro H11 p11 k11
      have kl : Kp (F1 p) H6 H11 := ((((k7.mono fun _ z => z.elim).trans k8 fun _ z => .inl z).trans k9 fun _ z => z.elim).trans k10 fun _ z => .inl z).trans k11 fun _ z => .inl z
      have he6 : H6 e = none := k7.free (k8.free he nep) id
      have D11 : DevA c O H11 p dx a1 b g e kvs' [] (dCrash fs n.toNat d) := D6.newL (lg := (d.steps.take n.toNat).foldl lstep d.log) (sl := []) (n := d.done) (mo := none) he6 kl p11 (k11.get (k10.get (k9.get hg8 id) ngp) ngp) (k11.get (k10.get he9 nep) nep) (by
        rintro (z | z | z | z)
        · exact ngp z
        · exact D6.fresh hg (.inr (.inl z))
        · exact D6.fresh hg (.inr (.inr (.inl z)))
        · exact nge z) (fr (f4 _ (k46.free hg ngp))) (fr (f4 _ (k46.free he6 nep)))
      have k26 : Kp (DevG p a1 a2 a4) H2 H6 := k24.trans k46 fun _ z => .inl (.inl z)
      exact k H11 _ (D11.clo eO) (Stp.nO (G := DevG p a1 a2 a4) (kk.trans (k26.trans kl fun _ z => .inl (.inl z)) fun _ z => .inl z) og)
end
/-! ### the pager -/
structure PgS where
  dev : DevS
  com : List (Int × List Int)
  dir : List (Int × List Int)
def gpg (s : PgS) (n : Int) : List Int := match aget s.dir n with
  | some d => d
  | none => match aget s.com n with
    | some d => d
    | none => cpg s.dev n
def pwr (n : Int) (ds : List Int) (s : PgS) : PgS := { s with dir := aput s.dir n ds }
def fld (s : PgS) (k : Nat) : Int := rn (((gpg s 0).drop (4 * k)).take 4)
def spl (ds : List Int) (k : Nat) (v : Int) : List Int := ds.take (4 * k) ++ wn 4 v ++ ds.drop (4 * (k + 1))
def setf (k : Nat) (v : Int) (s : PgS) : PgS := pwr 0 (spl (gpg s 0) k v) s
def cnth (s : PgS) : PgS := if fld s 6 = 0 then setf 6 1 s else s
def palloc (s : PgS) : PgS × Int := if fld s 7 = 0 then (pwr (fld s 6) zeros (setf 6 (fld s 6 + 1) s), fld s 6) else (pwr (fld s 7) zeros (setf 7 (rn ((gpg s (fld s 7)).take 4)) s), fld s 7)
def prel (n : Int) (s : PgS) : PgS := setf 7 n (pwr n (wn 4 (fld s 7) ++ List.replicate 252 0) s)
def proll (s : PgS) : PgS := cnth { s with dir := [] }
def PagG (p a1 a2 : Addr) (Od : Addr → Prop) : Addr → Prop := fun b => b = p ∨ b = a1 ∨ b = a2 ∨ Od b
structure PagA (c : Cl) (O Od : Addr → Prop) (H : Hp) (p q dx a1 a2 : Addr) (k1 k2 : List (Key × V)) (s : PgS) : Prop where
  o : H p = some (.ins c.Pager dx (F_Pager (.ref q) (.ref a1) (.ref a2)))
  dv : DevAt c H q Od s.dev
  h1 : H a1 = some (.dK k1)
  p1 : Paired (RPg H O (PagG p a1 a2 Od)) k1 s.com
  h2 : H a2 = some (.dK k2)
  p2 : Paired (RPg H O (PagG p a1 a2 Od)) k2 s.dir
  ne : a1 ≠ a2
  np : ¬ Od p
  n1 : ¬ Od a1
  n2 : ¬ Od a2
  ow : ∀ b, PagG p a1 a2 Od b → O b
/-- a pager at p of the device at q: it owns O, its device Od -/
def PagAt (c : Cl) (H : Hp) (p q : Addr) (O Od : Addr → Prop) (s : PgS) : Prop := (∃ dx a1 a2 k1 k2, PagA c O Od H p q dx a1 a2 k1 k2 s) ∧ ∀ b, O b → ∃ o, H b = some o
section
variable {c : Cl} {O O0 O' Od Od' F : Addr → Prop} {H H' : Hp} {p q dx a1 a2 b : Addr} {k1 k2 : List (Key × V)} {s : PgS}
theorem PagA.n1p (h : PagA c O Od H p q dx a1 a2 k1 k2 s) : p ≠ a1 := ne_of h.o h.h1 (by intro z; cases z)
theorem PagA.n2p (h : PagA c O Od H p q dx a1 a2 k1 k2 s) : p ≠ a2 := ne_of h.o h.h2 (by intro z; cases z)
theorem PagA.trk (D : PagA c O Od H p q dx a1 a2 k1 k2 s) (g : PagG p a1 a2 Od b) : ∃ o, H b = some o := by
  rcases g with rfl | rfl | rfl | g
  · exact ⟨_, D.o⟩
  · exact ⟨_, D.h1⟩
  · exact ⟨_, D.h2⟩
  · exact D.dv.2 b g
theorem PagA.fresh (D : PagA c O Od H p q dx a1 a2 k1 k2 s) (hb : H b = none) : ¬ PagG p a1 a2 Od b := fun z => by
  obtain ⟨o, ho⟩ := D.trk z
  rw [hb] at ho; cases ho
theorem PagA.off (k : Kp F H H') (h : PagA c O Od H p q dx a1 a2 k1 k2 s) (n : ∀ b, F b → ¬ O b) : PagA c O Od H' p q dx a1 a2 k1 k2 s := by
  have g : ∀ b, PagG p a1 a2 Od b → ¬ F b := fun b z f => n b f (h.ow b z)
  have im : ∀ a ds, Im H O (PagG p a1 a2 Od) a ds → Im H' O (PagG p a1 a2 Od) a ds := fun a ds i => ⟨k.get i.1 fun z => n _ z i.2.1, i.2⟩
  exact ⟨k.get h.o (g _ (.inl rfl)), h.dv.off k fun b z o => g b (.inr (.inr (.inr o))) z, k.get h.h1 (g _ (.inr (.inl rfl))), h.p1.mono fun _ _ r => r.im im, k.get h.h2 (g _ (.inr (.inr (.inl rfl)))), h.p2.mono fun _ _ r => r.im im, h.ne, h.np, h.n1, h.n2, h.ow⟩
theorem PagA.same (k : Kp F0 H H') (h : PagA c O Od H p q dx a1 a2 k1 k2 s) : PagA c O Od H' p q dx a1 a2 k1 k2 s := h.off k fun _ z => z.elim
theorem PagA.own (h : PagA c O Od H p q dx a1 a2 k1 k2 s) (n : ∀ b, O b → O' b) : PagA c O' Od H p q dx a1 a2 k1 k2 s :=
  ⟨h.o, h.dv, h.h1, h.p1.mono fun _ _ r => r.im fun _ _ i => ⟨i.1, n _ i.2.1, i.2.2⟩, h.h2, h.p2.mono fun _ _ r => r.im fun _ _ i => ⟨i.1, n _ i.2.1, i.2.2⟩, h.ne, h.np, h.n1, h.n2, fun b z => n _ (h.ow b z)⟩
theorem PagAt.opn (h : PagAt c H p q O0 Od s) : ∃ (O : Addr → Prop) (dx a1 a2 : Addr) (k1 k2 : List (Key × V)), O = (fun x => O0 x ∨ H x = none) ∧ PagA c O Od H p q dx a1 a2 k1 k2 s ∧ ∀ b, PagG p a1 a2 Od b → O0 b := by
  obtain ⟨⟨dx, a1, a2, k1, k2, D⟩, _⟩ := h
  exact ⟨_, dx, a1, a2, k1, k2, rfl, D.own fun _ z => .inl z, D.ow⟩
theorem PagA.clo (D : PagA c O Od H' p q dx a1 a2 k1 k2 s) (e : O = fun x => O0 x ∨ H x = none) : PagAt c H' p q (nO O0 H H') Od s := by
  subst e
  refine ⟨⟨dx, a1, a2, k1, k2, D.o, D.dv, D.h1, D.p1.mono fun _ _ r => r.im fun a ds i => ⟨i.1, ⟨i.2.1, _, i.1⟩, i.2.2⟩, D.h2, D.p2.mono fun _ _ r => r.im fun a ds i => ⟨i.1, ⟨i.2.1, _, i.1⟩, i.2.2⟩, D.ne, D.np, D.n1, D.n2, fun b z => ⟨D.ow b z, D.trk z⟩⟩, fun b z => z.2⟩
theorem PagAt.off (k : Kp F H H') (h : PagAt c H p q O Od s) (n : ∀ b, F b → ¬ O b) : PagAt c H' p q O Od s := by
  obtain ⟨⟨dx, a1, a2, k1, k2, D⟩, t⟩ := h
  refine ⟨⟨dx, a1, a2, k1, k2, D.off k n⟩, fun b z => ?_⟩
  obtain ⟨o, ho⟩ := t b z
  exact ⟨o, k.get ho fun y => n b y z⟩
theorem PagAt.same (k : Kp F0 H H') (h : PagAt c H p q O Od s) : PagAt c H' p q O Od s := h.off k fun _ z => z.elim
theorem PagAt.fresh (h : PagAt c H p q O Od s) (hb : H b = none) : ¬ O b := fun z => by
  obtain ⟨o, ho⟩ := h.2 b z
  rw [hb] at ho; cases ho
theorem PagAt.dv (h : PagAt c H p q O Od s) : DevAt c H q Od s.dev ∧ ∀ b, Od b → O b := by
  obtain ⟨⟨dx, a1, a2, k1, k2, D⟩, t⟩ := h
  exact ⟨D.dv, fun b z => D.ow b (.inr (.inr (.inr z)))⟩
/-- a page put into the dirty ones -/
theorem PagA.put2 {l : Addr} {n : Int} {ds : List Int} (D : PagA c O Od H p q dx a1 a2 k1 k2 s) (i : Im H O (PagG p a1 a2 Od) l ds) (k : Kp (F1 a2) H H') (h : H' a2 = some (.dK (putK k2 (.inl n) (.ref l)))) :
    PagA c O Od H' p q dx a1 a2 k1 (putK k2 (.inl n) (.ref l)) (pwr n ds s) := by
  have sub : ∀ x, F1 a2 x → PagG p a1 a2 Od x := fun x z => .inr (.inr (.inl z))
  exact ⟨k.get D.o D.n2p, D.dv.off k fun b z o => D.n2 (by rw [← z]; exact o), k.get D.h1 D.ne, D.p1.mono fun _ _ r => r.kp k sub, h, put_pr RPg.key ⟨rfl, l, rfl, i.kp k sub⟩ (D.p2.mono fun _ _ r => r.kp k sub), D.ne, D.np, D.n1, D.n2, D.ow⟩
theorem PagA.put1 {l : Addr} {n : Int} {ds : List Int} (D : PagA c O Od H p q dx a1 a2 k1 k2 s) (i : Im H O (PagG p a1 a2 Od) l ds) (k : Kp (F1 a1) H H') (h : H' a1 = some (.dK (putK k1 (.inl n) (.ref l)))) :
    PagA c O Od H' p q dx a1 a2 (putK k1 (.inl n) (.ref l)) k2 { s with com := aput s.com n ds } := by
  have sub : ∀ x, F1 a1 x → PagG p a1 a2 Od x := fun x z => .inr (.inl z)
  exact ⟨k.get D.o D.n1p, D.dv.off k fun b z o => D.n1 (by rw [← z]; exact o), h, put_pr RPg.key ⟨rfl, l, rfl, i.kp k sub⟩ (D.p1.mono fun _ _ r => r.kp k sub), k.get D.h2 D.ne.symm, D.p2.mono fun _ _ r => r.kp k sub, D.ne, D.np, D.n1, D.n2, D.ow⟩
/-- the device steps -/
theorem PagA.dev {d' : DevS} (D : PagA c O Od H p q dx a1 a2 k1 k2 s) (V : DevAt c H' q Od' d') (t : Stp Od Od' H H') (fr : ∀ b, H b = none → O b) : PagA c O Od' H' p q dx a1 a2 k1 k2 { s with dev := d' } := by
  have im : ∀ a ds, Im H O (PagG p a1 a2 Od) a ds → Im H' O (PagG p a1 a2 Od') a ds := fun a ds i => ⟨t.kp.get i.1 fun z => i.2.2 (.inr (.inr (.inr z))), i.2.1, by
    rintro (z | z | z | z)
    · exact i.2.2 (.inl z)
    · exact i.2.2 (.inr (.inl z))
    · exact i.2.2 (.inr (.inr (.inl z)))
    · exact t.kp0 i.1 (fun z => i.2.2 (.inr (.inr (.inr z)))) z⟩
  refine ⟨t.kp.get D.o D.np, V, t.kp.get D.h1 D.n1, D.p1.mono fun _ _ r => r.im im, t.kp.get D.h2 D.n2, D.p2.mono fun _ _ r => r.im im, D.ne, t.kp0 D.o D.np, t.kp0 D.h1 D.n1, t.kp0 D.h2 D.n2, ?_⟩
  rintro b (z | z | z | z)
  · exact D.ow b (.inl z)
  · exact D.ow b (.inr (.inl z))
  · exact D.ow b (.inr (.inr (.inl z)))
  · rcases t.gr b z with y | y
    · exact D.ow b (.inr (.inr (.inr y)))
    · exact fr b y
/-- a new dict of dirty ones -/
theorem PagA.new2 {e : Addr} (D : PagA c O Od H p q dx a1 a2 k1 k2 s) (he : H e = none) (k : Kp (F1 p) H H') (o : H' p = some (.ins c.Pager dx (F_Pager (.ref q) (.ref a1) (.ref e)))) (h : H' e = some (.dK [])) (oe : O e) : PagA c O Od H' p q dx a1 e k1 [] { s with dir := [] } := by
  have nb := D.fresh he
  have im : ∀ a ds, Im H O (PagG p a1 a2 Od) a ds → Im H' O (PagG p a1 e Od) a ds := fun a ds i => ⟨k.get i.1 fun z => i.2.2 (.inl z), i.2.1, by
    rintro (z | z | z | z)
    · exact i.2.2 (.inl z)
    · exact i.2.2 (.inr (.inl z))
    · exact ne_of_none i.1 he z
    · exact i.2.2 (.inr (.inr (.inr z)))⟩
  exact ⟨o, D.dv.off k fun b z y => D.np (by rw [← z]; exact y), k.get D.h1 D.n1p.symm, D.p1.mono fun _ _ r => r.im im, h, .nil, fun z => nb (.inr (.inl z.symm)), D.np, D.n1, fun z => nb (.inr (.inr (.inr z))), by
    rintro b (z | z | z | z)
    · exact D.ow b (.inl z)
    · exact D.ow b (.inr (.inl z))
    · rw [z]; exact oe
    · exact D.ow b (.inr (.inr (.inr z)))⟩
theorem PagA.new1 {e : Addr} (D : PagA c O Od H p q dx a1 a2 k1 k2 s) (he : H e = none) (k : Kp (F1 p) H H') (o : H' p = some (.ins c.Pager dx (F_Pager (.ref q) (.ref e) (.ref a2)))) (h : H' e = some (.dK [])) (oe : O e) : PagA c O Od H' p q dx e a2 [] k2 { s with com := [] } := by
  have nb := D.fresh he
  have im : ∀ a ds, Im H O (PagG p a1 a2 Od) a ds → Im H' O (PagG p e a2 Od) a ds := fun a ds i => ⟨k.get i.1 fun z => i.2.2 (.inl z), i.2.1, by
    rintro (z | z | z | z)
    · exact i.2.2 (.inl z)
    · exact ne_of_none i.1 he z
    · exact i.2.2 (.inr (.inr (.inl z)))
    · exact i.2.2 (.inr (.inr (.inr z)))⟩
  exact ⟨o, D.dv.off k fun b z y => D.np (by rw [← z]; exact y), h, .nil, k.get D.h2 D.n2p.symm, D.p2.mono fun _ _ r => r.im im, fun z => nb (.inr (.inr (.inl z))), D.np, fun z => nb (.inr (.inr (.inr z))), D.n2, by
    rintro b (z | z | z | z)
    · exact D.ow b (.inl z)
    · rw [z]; exact oe
    · exact D.ow b (.inr (.inr (.inl z)))
    · exact D.ow b (.inr (.inr (.inr z)))⟩
end
/-- sizes of a pager's state -/
def SmlP (s : PgS) : Prop := s.com.length ≤ 1000000 ∧ s.dir.length ≤ 1000000 ∧ Sz s.com ∧ Sz s.dir
section
variable {P : Program} {w : World} {K : PySem.W.Frag} {mg : Str → Option Value} {base : Heap} {c : Cl}
def sp_Pager_read (c : Cl) : Sp := fun vs H Q _ => ∃ p q O Od s n, vs = [.ref p, .int n] ∧ PagAt c H p q O Od s ∧ ∀ b H', H b = none → Kp F0 H H' → H' b = some (.lst ((gpg s n).map V.int)) → Q (.ref b) H'
theorem ok_Pager_read (T : Txt K mg c) : GM P w K mg base CX0 3 c.Pager "read" (sp_Pager_read c) := by
  obtain ⟨f, fd, F, gf, gi⟩ := T.f_Pager_read
  have tc_Device := T.cl_Device; have tn_Device_pages := T.n_Device_pages; have tn_Device_page_writes := T.n_Device_page_writes; have tn_Device_durable_log := T.n_Device_durable_log; have tn_Device_log_steps := T.n_Device_log_steps; have tn_Device_done := T.n_Device_done; have tn_Device_most := T.n_Device_most
  have tc_Pager := T.cl_Pager; have tn_Pager_device := T.n_Pager_device; have tn_Pager_committed := T.n_Pager_committed; have tn_Pager_dirty := T.n_Pager_dirty
  refine ⟨f, fd, ["self", "number"], F.ok sc_Pager_read ?_ (fun cdv A outer s H vs Q E hr h => ?_), ⟨gf, gi, F.kp⟩, (F.binds (ps := ["self", "number"]) fun _ _ _ _ _ _ us hl => match us, hl with | [_, _], _ => rfl)⟩
  · rintro vs H Q E ⟨_, _, _, _, _, _, rfl, _⟩
    rfl
  · obtain ⟨p, q, O0, Od, s, n, rfl, ⟨⟨dx, a1, a2, k1, k2, D⟩, _⟩, k⟩ := h
    obtain ⟨⟨dx2, b1, b2, b3, b4, kvs, ws, DD⟩, _⟩ := id D.dv
    have ho := D.o
    have h1 := D.h1
    have h2 := D.h2
    have hq := DD.o
    refine ⟨_, (pss_cons (ps_if (pt_cmp (pc_din (hu_of hr) (pv 1) (pe_fldK rfl (pv 0)))) (pss_one (ps_ret (pe_callTy (r := rLstQ K) c_list (by rfl) T.z_list (by decide +kernel) (pa_cons (pe_dget (hu_of hr) (pe_fldK rfl (pv 0)) (pv 1) (fun _ _ => rfl)) pa_nil)))) pss_nil)
      (pss_cons (ps_if (pt_cmp (pc_din (hu_of hr) (pv 1) (pe_fldK rfl (pv 0)))) (pss_one (ps_ret (pe_callTy (r := rLstQ K) c_list (by rfl) T.z_list (by decide +kernel) (pa_cons (pe_dget (hu_of hr) (pe_fldK rfl (pv 0)) (pv 1) (fun _ _ => rfl)) pa_nil)))) pss_nil)
      (pss_one (ps_ret (pe_gm T.cl_Device (ok_Device_page T) (pe_fldK rfl (pv 0)) (hr.mono (by decide)) pass0S (pa_cons (pv 1) pa_nil)))))), ?_⟩
    walk_at "cx"
    walk_at "rd"
    rcases get_pr RPg.key n D.p2 with ⟨e1, e2⟩ | ⟨v, ds, e1, e2, _, a, rfl, i⟩
    · rw [e1]
      refine if_no ?_
      walk_at "rd"
      rcases get_pr RPg.key n D.p1 with ⟨e3, e4⟩ | ⟨v, ds, e3, e4, _, a, rfl, i⟩
      · rw [e3]
        refine if_no ?_
        walk_at "rd"
        refine ⟨q, Od, s.dev, n, rfl, D.dv, fun b H' hb k' h' => k b H' hb k' ?_⟩
        rw [h']; unfold gpg; rw [e2, e4]
      · rw [e3]
        refine if_so ?_
        walk_at "rd"
        refine x_dgI (.inl h1) e3 ?_
        walk_at "rd"
        refine x_lstL (SqL.of i.1) fun b H' hb k' h' => k b H' hb k' ?_
        rw [h']; unfold gpg; rw [e2, e4]
    · rw [e1]
      refine if_so ?_
      walk_at "rd"
      refine x_dgI (.inl h2) e1 ?_
      walk_at "rd"
      refine x_lstL (SqL.of i.1) fun b H' hb k' h' => k b H' hb k' ?_
      rw [h']; unfold gpg; rw [e2]
def sp_Pager_write (c : Cl) (K : PySem.W.Frag) : Sp := fun vs H Q _ => ∃ p q O Od s n l ds, vs = [.ref p, .int n, .ref l] ∧ PagAt c H p q O Od s ∧ SqL K H l (ds.map V.int) ∧ s.dir.length ≤ 1000000 ∧ ∀ H' O', PagAt c H' p q O' Od (pwr n ds s) → Stp O O' H H' → Q .non H'
theorem ok_Pager_write (T : Txt K mg c) : GM P w K mg base CX0 1 c.Pager "write" (sp_Pager_write c K) := by
  obtain ⟨f, fd, F, gf, gi⟩ := T.f_Pager_write
  have tc_Pager := T.cl_Pager; have tn_Pager_device := T.n_Pager_device; have tn_Pager_committed := T.n_Pager_committed; have tn_Pager_dirty := T.n_Pager_dirty
  refine ⟨f, fd, ["self", "number", "data"], F.ok sc_Pager_write ?_ (fun cdv A outer s H vs Q E hr h => ?_), ⟨gf, gi, F.kp⟩, (F.binds (ps := ["self", "number", "data"]) fun _ _ _ _ _ _ us hl => match us, hl with | [_, _, _], _ => rfl)⟩
  · rintro vs H Q E ⟨_, _, _, _, _, _, _, _, rfl, _⟩
    rfl
  · obtain ⟨p, q, O0, Od, s, n, l, ds, rfl, hP, hl, sm, k⟩ := h
    obtain ⟨O, dx, a1, a2, k1, k2, eO, D, og⟩ := hP.opn
    refine ⟨_, (pss_one (ps_dput (hu_of hr) (pe_fldK rfl (pv 0)) (pv 1) (pe_callTy (r := rLstQ K) c_list (by rfl) T.z_list (by decide +kernel) (pa_cons (pv 2) pa_nil)) rfl)), ?_⟩
    walk_at "cx"
    walk_at "rd"
    refine x_lstL hl fun b H1 hb kk hb1 => ?_
    have D1 := D.same kk
    have ho := D1.o
    have h2 := D1.h2
    have lk : k2.length = s.dir.length := D.p2.length
    walk_at "rd"
    refine x_dpI h2 (by omega) fun H2 e2 k2' => ?_
    have D2 := D1.put2 (ds := ds) ⟨hb1, by rw [eO]; exact .inr hb, D.fresh hb⟩ k2' e2
    exact k H2 _ (D2.clo eO) (Stp.nO (G := PagG p a1 a2 Od) ((kk.mono fun _ z => z.elim).trans k2' fun x z => .inl (.inr (.inr (.inl z)))) og)
def sp_Pager_field (c : Cl) : Sp := fun vs H Q _ => ∃ (p q : Addr) (O Od : Addr → Prop) (s : PgS) (k : Nat), vs = [.ref p, .int k] ∧ k ≤ 1000 ∧ PagAt c H p q O Od s ∧ ∀ H', Kp F0 H H' → Q (.int (fld s k)) H'
theorem ok_Pager_field (T : Txt K mg c) : GM P w K mg base CX0 4 c.Pager "field" (sp_Pager_field c) := by
  obtain ⟨f, fd, F, gf, gi⟩ := T.f_Pager_field
  obtain ⟨_, mg_FIELD_SIZE⟩ := T.m_FIELD_SIZE
  have tc_Pager := T.cl_Pager; have tn_Pager_device := T.n_Pager_device; have tn_Pager_committed := T.n_Pager_committed; have tn_Pager_dirty := T.n_Pager_dirty
  refine ⟨f, fd, ["self", "k"], F.ok sc_Pager_field ?_ (fun cdv A outer s H vs Q E hr h => ?_), ⟨gf, gi, F.kp⟩, (F.binds (ps := ["self", "k"]) fun _ _ _ _ _ _ us hl => match us, hl with | [_, _], _ => rfl)⟩
  · rintro vs H Q E ⟨_, _, _, _, _, _, rfl, _⟩
    rfl
  · obtain ⟨p, q, O0, Od, s, n, rfl, hn, hP, k⟩ := h
    obtain ⟨⟨dx, a1, a2, k1, k2, D⟩, _⟩ := id hP
    have ho := D.o
    refine ⟨_, (pss_one (ps_ret (pe_g (ok_read_number T) (hr.mono (by decide)) pass0S (pa_cons (pe_gm T.cl_Pager (ok_Pager_read T) (pv 0) (hr.mono (by decide)) pass0S (pa_cons pe_int pa_nil)) (pa_cons (pe_op op_mul (pe_glob (v := .int 4) rfl mg_FIELD_SIZE ⟨_, rfl⟩) (pv 1)) (pa_cons (pe_glob (v := .int 4) rfl mg_FIELD_SIZE ⟨_, rfl⟩) pa_nil)))))), ?_⟩
    walk_at "cx"
    walk_at "rd"
    refine ⟨p, q, O0, Od, s, 0, rfl, hP, fun b H1 hb k1 e1 => ?_⟩
    walk_at "rd"
    refine ⟨b, gpg s 0, 4 * n, 4, by simp, SqL.of e1, fun H2 k2 => ?_⟩
    exact k H2 (k1.trans k2 fun _ z => z.elim)
def sp_Pager_set_field (c : Cl) : Sp := fun vs H Q _ => ∃ (p q : Addr) (O Od : Addr → Prop) (s : PgS) (k : Nat) (v : Int), vs = [.ref p, .int k, .int v] ∧ PagAt c H p q O Od s ∧ s.dir.length ≤ 1000000 ∧ 4 * (k + 1) ≤ (gpg s 0).length ∧ (gpg s 0).length ≤ 1000000 ∧ ∀ H' O', PagAt c H' p q O' Od (setf k v s) → Stp O O' H H' → Q .non H'
theorem ok_Pager_set_field (T : Txt K mg c) : GM P w K mg base CX0 4 c.Pager "set_field" (sp_Pager_set_field c) := by
  obtain ⟨f, fd, F, gf, gi⟩ := T.f_Pager_set_field
  obtain ⟨_, mg_FIELD_SIZE⟩ := T.m_FIELD_SIZE
  have tc_Pager := T.cl_Pager; have tn_Pager_device := T.n_Pager_device; have tn_Pager_committed := T.n_Pager_committed; have tn_Pager_dirty := T.n_Pager_dirty
  refine ⟨f, fd, ["self", "k", "number"], F.ok sc_Pager_set_field ?_ (fun cdv A outer s H vs Q E hr h => ?_), ⟨gf, gi, F.kp⟩, (F.binds (ps := ["self", "k", "number"]) fun _ _ _ _ _ _ us hl => match us, hl with | [_, _, _], _ => rfl)⟩
  · rintro vs H Q E ⟨_, _, _, _, _, _, _, rfl, _⟩
    rfl
  · obtain ⟨p, q, O0, Od, s, n, v, rfl, hP, sm, hl, hz, k⟩ := h
    obtain ⟨⟨dx, a1, a2, k1, k2, D⟩, _⟩ := id hP
    have ho := D.o
    refine ⟨_, (pss_cons (ps_set (i := 3) sc_Pager_set_field.nd rfl (Or.inl rfl) (pe_gm T.cl_Pager (ok_Pager_read T) (pv 0) (hr.mono (by decide)) pass0S (pa_cons pe_int pa_nil)))
      (pss_cons (ps_asg (pe_g (ok_write_number T) (hr.mono (by decide)) pass0S (pa_cons (pe_glob (v := .int 4) rfl mg_FIELD_SIZE ⟨_, rfl⟩) (pa_cons (pv 2) pa_nil))) (pg_slS (pv 3) (pe_op op_mul (pe_glob (v := .int 4) rfl mg_FIELD_SIZE ⟨_, rfl⟩) (pv 1)) (pe_op op_mul (pe_glob (v := .int 4) rfl mg_FIELD_SIZE ⟨_, rfl⟩) (pe_op op_add (pv 1) pe_int))))
      (pss_one (ps_expr (pe_gm T.cl_Pager (ok_Pager_write T) (pv 0) (hr.mono (by decide)) pass0S (pa_cons pe_int (pa_cons (pv 3) pa_nil))))))), ?_⟩
    walk_at "cx"
    walk_at "rd"
    refine ⟨p, q, O0, Od, s, 0, rfl, hP, fun b H1 hb k1' e1 => ?_⟩
    walk_at "rd"
    refine ⟨4, v, rfl, by decide, fun b2 H2 hb2 k2 e2 => ?_⟩
    walk_at "rd"
    refine x_gsl ?_
    walk_at "rd"
    have nbb : b ≠ b2 := ne_of_none e1 hb2
    refine x_slS (k2.get e1 id) e2 nbb (by omega) (by omega) (by rw [List.length_map]; omega) (by rw [List.length_map, List.length_map, wn_len, sizeLine_eq]; omega) fun H3 e3 k3 => ?_
    have e3' : H3 b = some (.lst ((spl (gpg s 0) n v).map V.int)) := by
      rw [e3]
      unfold spl
      rw [show (4 * (n : Int)).toNat = 4 * n by omega, show (4 * ((n : Int) + 1)).toNat = 4 * (n + 1) by omega]
      simp only [List.map_append, List.map_take, List.map_drop]
    have k03 : Kp F0 H H3 := (k1'.trans k2 fun _ z => z.elim).trans k3 fun x z => .inr (by rw [z]; exact hb)
    have ho3 := k03.get ho id
    walk_at "rd"
    refine ⟨p, q, O0, Od, s, 0, b, _, rfl, hP.same k03, SqL.of e3', sm, fun H' O' P' s' => k H' O' P' ((Stp.pure k03).trans s')⟩
/-! what the page dicts hold -/
theorem aget_put_eq (l : List (Int × List Int)) (n : Int) (v : List Int) : aget (aput l n v) n = some v := by
  unfold aget aput
  split
  next h =>
    rw [List.find?_map]
    have e : ((fun q : Int × List Int => decide (q.1 = n)) ∘ fun q => if q.1 = n then (q.1, v) else q) = fun q => decide (q.1 = n) := by
      funext q; show decide ((if q.1 = n then (q.1, v) else q).1 = n) = _; split <;> rfl
    rw [e]
    cases z : l.find? fun q => decide (q.1 = n) with
    | none =>
      rw [List.find?_eq_none] at z
      rw [List.any_eq_true] at h
      obtain ⟨x, hx, hy⟩ := h
      exact absurd hy (z x hx)
    | some q =>
      have := List.find?_some z
      simp only [decide_eq_true_eq] at this
      simp [this]
  next h =>
    have z : l.find? (fun q => decide (q.1 = n)) = none := by
      rw [List.find?_eq_none]; intro x hx hy
      exact h (List.any_eq_true.mpr ⟨x, hx, hy⟩)
    rw [List.find?_append, z]; simp
theorem aget_put_ne (l : List (Int × List Int)) {n m : Int} (v : List Int) (h : m ≠ n) : aget (aput l n v) m = aget l m := by
  unfold aget aput
  split
  · rw [List.find?_map]
    have e : ((fun q : Int × List Int => decide (q.1 = m)) ∘ fun q => if q.1 = n then (q.1, v) else q) = fun q => decide (q.1 = m) := by
      funext q; show decide ((if q.1 = n then (q.1, v) else q).1 = m) = _; split <;> rfl
    rw [e]
    cases z : l.find? fun q => decide (q.1 = m) with
    | none => rfl
    | some q =>
      have := List.find?_some z
      simp only [decide_eq_true_eq] at this
      have q2 : q.1 ≠ n := fun y => h (this.symm.trans y)
      simp [q2]
  · rw [List.find?_append]
    have : ((n, v) :: []).find? (fun q : Int × List Int => decide (q.1 = m)) = none := by simp [h.symm]
    rw [this, Option.or_none]
theorem gpg_eq (s : PgS) (n : Int) (ds : List Int) : gpg (pwr n ds s) n = ds := by unfold gpg pwr; rw [aget_put_eq]
theorem gpg_ne (s : PgS) {n m : Int} (ds : List Int) (h : m ≠ n) : gpg (pwr n ds s) m = gpg s m := by unfold gpg pwr; rw [aget_put_ne _ _ h]
theorem pwr_len (s : PgS) (n : Int) (ds : List Int) : (pwr n ds s).dir.length ≤ s.dir.length + 1 := aput_len _ _ _
theorem spl_len {ds : List Int} {k : Nat} {v : Int} (h : 4 * (k + 1) ≤ ds.length) : (spl ds k v).length = ds.length := by
  unfold spl; simp only [List.length_append, List.length_take, List.length_drop, wn_len]; omega
theorem gpg_setf {s : PgS} {k : Nat} {v n : Int} (h : 4 * (k + 1) ≤ (gpg s 0).length) : (gpg (setf k v s) n).length = (gpg s n).length := by
  by_cases e : n = 0
  · subst e; unfold setf; rw [gpg_eq, spl_len h]
  · unfold setf; rw [gpg_ne _ _ e]
theorem setf_len (s : PgS) (k : Nat) (v : Int) : (setf k v s).dir.length ≤ s.dir.length + 1 := aput_len _ _ _
def sp_Pager_count_head (c : Cl) : Sp := fun vs H Q _ => ∃ (p q : Addr) (O Od : Addr → Prop) (s : PgS), vs = [.ref p] ∧ PagAt c H p q O Od s ∧ s.dir.length ≤ 1000000 ∧ (gpg s 0).length = 256 ∧ ∀ H' O', PagAt c H' p q O' Od (cnth s) → Stp O O' H H' → Q .non H'
theorem ok_Pager_count_head (T : Txt K mg c) : GM P w K mg base CX0 5 c.Pager "count_head" (sp_Pager_count_head c) := by
  obtain ⟨f, fd, F, gf, gi⟩ := T.f_Pager_count_head
  obtain ⟨_, mg_PAGES⟩ := T.m_PAGES
  have tc_Pager := T.cl_Pager; have tn_Pager_device := T.n_Pager_device; have tn_Pager_committed := T.n_Pager_committed; have tn_Pager_dirty := T.n_Pager_dirty
  refine ⟨f, fd, ["self"], F.ok sc_Pager_count_head ?_ (fun cdv A outer s H vs Q E hr h => ?_), ⟨gf, gi, F.kp⟩, (F.binds (ps := ["self"]) fun _ _ _ _ _ _ us hl => match us, hl with | [_], _ => rfl)⟩
  · rintro vs H Q E ⟨_, _, _, _, _, rfl, _⟩
    rfl
  · obtain ⟨p, q, O0, Od, s, rfl, hP, sm, hl, k⟩ := h
    obtain ⟨⟨dx, a1, a2, k1, k2, D⟩, _⟩ := id hP
    have ho := D.o
    refine ⟨_, (pss_one (ps_if (pt_cmpR op_eq (pe_gm T.cl_Pager (ok_Pager_field T) (pv 0) (hr.mono (by decide)) pass0S (pa_cons (pe_glob (v := .int 6) rfl mg_PAGES ⟨_, rfl⟩) pa_nil)) pe_int (nomark _)) (pss_one (ps_expr (pe_gm T.cl_Pager (ok_Pager_set_field T) (pv 0) (hr.mono (by decide)) pass0S (pa_cons (pe_glob (v := .int 6) rfl mg_PAGES ⟨_, rfl⟩) (pa_cons pe_int pa_nil))))) pss_nil)), ?_⟩
    walk_at "cx"
    walk_at "rd"
    refine ⟨p, q, O0, Od, s, 6, rfl, by decide, hP, fun H1 kk => ?_⟩
    have ho1 := kk.get ho id
    walk_at "rd"
    refine ite_dec (fun e => ?_) fun e => ?_
    · walk_at "rd"
      refine ⟨p, q, O0, Od, s, 6, 1, rfl, hP.same kk, sm, by omega, by omega, fun H' O' P' s' => k H' O' ?_ ((Stp.pure kk).trans s')⟩
      unfold cnth; rw [if_pos e]; exact P'
    · refine k H1 O0 ?_ (Stp.pure kk)
      unfold cnth; rw [if_neg e]; exact hP.same kk
end
/-! ### the pager's raising methods -/
theorem Kp.under {F : Addr → Prop} {H H' : Hp} (k : Kp F H H') (a : Addr) (u : HO) : Kp F (upd H a u) (upd H' a u) := fun b o h n => by
  by_cases e : b = a
  · subst e; rw [upd_same] at h ⊢; exact h
  · rw [upd_ne e] at h ⊢; exact k b o h n
theorem Wk.keys {d : Addr} {o : Obj} {kvs : List (Key × V)} : Wk (Itk d o kvs) (fun H => H d = some (.frz o (.dK kvs))) (kvs.map fun kv => kV kv.1) where
  go := fun i H h g => ⟨g, by rw [List.length_map] at h; exact h⟩
  yld := fun i H x H' h _ y => by
    obtain ⟨e, k, v, h1, h2⟩ := y
    exact ⟨e.symm, by rw [List.getElem?_map, h1, h2]; rfl⟩
  stop := fun H g => ⟨g, by rw [List.length_map]; exact Nat.le_refl _⟩
section
variable {σ : L2.St} {H : Hp} {D : Ends} {td : TE} {t : TS} {d : Addr} {u : HO} {R : It → Hp → Prop} {o : Obj} {kvs : List (Key × V)}
def rKeysQ (x : V) (H : Hp) (R : It → Hp → Prop) : Prop := ∃ d o, x = .ref d ∧ ((∃ kvs, H d = some (.frz o (.dK kvs)) ∧ R (Itk d o kvs) H) ∨ ∃ kvs, H d = some (.frz o (.dT kvs)) ∧ R (Itkt d o kvs) H)
theorem x_keys (h : td σ H fun x H1 => rKeysQ x H1 R) : iKeys td σ H R := h
theorem x_kq (h : H d = some (.frz o (.dK kvs))) (q : R (Itk d o kvs) H) : rKeysQ (.ref d) H R := ⟨d, o, rfl, .inl ⟨kvs, h, q⟩⟩
theorem x_lock (h : H d = some u) (m : Mut (some u)) (q : ∀ od, t ⟨fun σ' H' => H' d = some (.frz od u) ∧ D.nx σ' (upd H' d u), fun v H' => H' d = some (.frz od u) ∧ D.rt v (upd H' d u), fun σ' H' => H' d = some (.frz od u) ∧ D.bk σ' (upd H' d u), fun σ' H' => H' d = some (.frz od u) ∧ D.ct σ' (upd H' d u)⟩ σ (upd H d (.frz od u))) : tLock t D σ H := ⟨d, u, h, m, q⟩
end
/-- the keys, ascending -/
def skeys (l : List (Int × List Int)) : List Int := (l.map (·.1)).mergeSort fun a b => decide (a ≤ b)
theorem skeys_perm (l : List (Int × List Int)) : (skeys l).Perm (l.map (·.1)) := List.mergeSort_perm _ _
theorem skeys_sorted (l : List (Int × List Int)) : (skeys l).Pairwise (· ≤ ·) := by
  have h := List.pairwise_mergeSort (le := fun a b : Int => decide (a ≤ b)) (fun a b c h1 h2 => by simp only [decide_eq_true_eq] at *; omega) (fun a b => by simp only [Bool.or_eq_true, decide_eq_true_eq]; omega) (l.map (·.1))
  exact h.imp fun x => by simpa using x
theorem skeys_eq {l : List (Int × List Int)} {ys : List Int} (p : ys.Perm (l.map (·.1))) (s : ys.Pairwise (· ≤ ·)) : ys = skeys l :=
  List.Perm.eq_of_pairwise (fun a b _ _ h1 h2 => Int.le_antisymm h1 h2) s (skeys_sorted l) (p.trans (skeys_perm l).symm)
theorem skeys_len (l : List (Int × List Int)) : (skeys l).length = l.length := by rw [(skeys_perm l).length_eq, List.length_map]
def grp (l : List (Int × List Int)) : List (Int × List Int) := (skeys l).map fun n => (n, (aget l n).getD [])
theorem grp_at {l : List (Int × List Int)} {i : Nat} {n : Int} (h : (skeys l)[i]? = some n) : (grp l)[i]? = some (n, (aget l n).getD []) := by unfold grp; rw [List.getElem?_map, h]; rfl
theorem mem_skeys {l : List (Int × List Int)} {n : Int} (h : n ∈ skeys l) : ∃ d, aget l n = some d ∧ (n, d) ∈ l := by
  have h1 := (skeys_perm l).mem_iff.mp h
  obtain ⟨q, hq, e⟩ := List.mem_map.mp h1
  unfold aget
  cases z : l.find? fun q => decide (q.1 = n) with
  | none =>
    rw [List.find?_eq_none] at z
    exact absurd (decide_eq_true e) (z q hq)
  | some r =>
    have h2 := List.find?_some z
    simp only [decide_eq_true_eq] at h2
    exact ⟨r.2, rfl, by rw [← h2]; exact List.mem_of_find?_eq_some z⟩
theorem aget_mem {l : List (Int × List Int)} {q : Int × List Int} (h : q ∈ l) : ∃ d, aget l q.1 = some d := by
  unfold aget
  cases z : l.find? fun r => decide (r.1 = q.1) with
  | none =>
    rw [List.find?_eq_none] at z
    exact absurd (decide_eq_true rfl) (z q h)
  | some r => exact ⟨r.2, rfl⟩
def andD (r : DevS × Bool) (f : DevS → DevS × Bool) : DevS × Bool := if r.2 = true then f r.1 else r
def coms (l m : List (Int × List Int)) : List (Int × List Int) := l.foldl (fun a q => aput a q.1 ((aget l q.1).getD [])) m
def pcommit (s : PgS) : PgS × Bool := if s.dir.length = 0 then (s, true) else
  let r := andD (dApp (wg (grp s.dir)) s.dev) dSyncL
  (if r.2 = true then { dev := r.1, com := coms s.dir s.com, dir := [] } else { s with dev := r.1 }, r.2)
def pwrites : List (Int × List Int) → DevS → DevS × Bool
  | [], d => (d, true)
  | q :: r, d => if (dWrite q.1 q.2 d).2 = true then pwrites r (dWrite q.1 q.2 d).1 else (d, false)
def pckpt (s : PgS) : PgS × Bool :=
  let r := andD (andD (andD (pwrites (grp s.com) s.dev) dSyncP) (dByte none)) dSyncL
  (if r.2 = true then { s with dev := r.1, com := [] } else { s with dev := r.1 }, r.2)
/-- the sizes that hold everywhere -/
structure PgZ (s : PgS) : Prop where
  w : s.dev.writes.length ≤ 400000
  p : s.dev.pages.length + s.dev.writes.length ≤ 1000000
  l : s.dev.log.length + s.dev.steps.length ≤ 7000000
  z1 : Sz s.dev.pages
  z2 : Sz s.dev.writes
  nc : s.com.length < 64
  nd : s.dir.length < 64
  lc : ∀ q ∈ s.com, q.2.length = 256
  ld : ∀ q ∈ s.dir, q.2.length = 256 ∧ 0 ≤ q.1 ∧ q.1 < 256 ^ 4
theorem PgZ.good {s : PgS} (h : PgZ s) : Good (grp s.dir) ∨ 60 < s.dir.length := by
  by_cases q : s.dir.length ≤ 60
  · refine .inl ⟨by unfold grp; rw [List.length_map, skeys_len]; exact q, fun x hx => ?_⟩
    unfold grp at hx
    obtain ⟨n, hn, rfl⟩ := List.mem_map.mp hx
    obtain ⟨d, hd, hm⟩ := mem_skeys hn
    have := h.ld _ hm
    rw [hd]
    exact ⟨this.2.1, this.2.2, this.1⟩
  · exact .inr (by omega)
theorem dApp_sm : ∀ (bs : List Int) (d : DevS), (dApp bs d).1.pages = d.pages ∧ (dApp bs d).1.writes = d.writes ∧ (dApp bs d).1.log = d.log
  | [], _ => ⟨rfl, rfl, rfl⟩
  | b :: bs, d => by
    show (if (dByte (some b) d).2 = true then dApp bs (dByte (some b) d).1 else (d, false)).1.pages = d.pages ∧ (if (dByte (some b) d).2 = true then dApp bs (dByte (some b) d).1 else (d, false)).1.writes = d.writes ∧ (if (dByte (some b) d).2 = true then dApp bs (dByte (some b) d).1 else (d, false)).1.log = d.log
    have h := dApp_sm bs (dByte (some b) d).1
    have h2 : (dByte (some b) d).1.pages = d.pages ∧ (dByte (some b) d).1.writes = d.writes ∧ (dByte (some b) d).1.log = d.log := by
      unfold dByte pw; split <;> exact ⟨rfl, rfl, rfl⟩
    split
    · exact ⟨h.1.trans h2.1, h.2.1.trans h2.2.1, h.2.2.trans h2.2.2⟩
    · exact ⟨rfl, rfl, rfl⟩
theorem PgZ.sml {s : PgS} (h : PgZ s) : Sml s.dev := ⟨by have := h.w; omega, by have := h.p; omega, by have := h.l; omega, h.z1, h.z2⟩
theorem PgZ.app {s : PgS} (h : PgZ s) {bs : List Int} (hb : bs.length ≤ 900000) : Sml (dApp bs s.dev).1 := by
  have e := dApp_sm bs s.dev
  have e2 := dApp_steps bs s.dev
  have := h.w; have := h.p; have := h.l
  exact ⟨by rw [e.2.1]; omega, by rw [e.1, e.2.1]; omega, by rw [e.2.2]; omega, by rw [e.1]; exact h.z1, by rw [e.2.1]; exact h.z2⟩
/-- what a raising method of the pager promises -/
def spP (c : Cl) (H : Hp) (p q : Addr) (O : Addr → Prop) (r : PgS × Bool) (Q : Hp → Prop) (E : XK) : Prop :=
  ∀ H' O' Od', PagAt c H' p q O' Od' r.1 → Stp O O' H H' → if r.2 = true then Q H' else E (.ref c.PowerCut) none H'
theorem spP.yes {c : Cl} {H H' : Hp} {p q : Addr} {O O' Od' : Addr → Prop} {r : PgS × Bool} {s' : PgS} {Q : Hp → Prop} {E : XK} (k : spP c H p q O r Q E) (e : r = (s', true)) (P : PagAt c H' p q O' Od' s') (t : Stp O O' H H') : Q H' := by
  have z := k H' O' Od' (by rw [e]; exact P) t
  rw [e, if_pos rfl] at z
  exact z
theorem spP.no {c : Cl} {H H' : Hp} {p q : Addr} {O O' Od' : Addr → Prop} {r : PgS × Bool} {s' : PgS} {Q : Hp → Prop} {E : XK} (k : spP c H p q O r Q E) (e : r = (s', false)) (P : PagAt c H' p q O' Od' s') (t : Stp O O' H H') : E (.ref c.PowerCut) none H' := by
  have z := k H' O' Od' (by rw [e]; exact P) t
  rw [e, if_neg Bool.false_ne_true] at z
  exact z
theorem keys_pr {O G : Addr → Prop} {H : Hp} : ∀ {kvs : List (Key × V)} {l : List (Int × List Int)}, Paired (RPg H O G) kvs l → kvs.map (·.1) = (l.map (·.1)).map Sum.inl
  | _, _, .nil => rfl
  | _, _, .cons r t => by rw [List.map_cons, List.map_cons, List.map_cons, keys_pr t, r.1]
theorem getE' {xs : List Int} {i : Nat} {x : V} (h : (xs.map V.int)[i]? = some x) : ∃ n, xs[i]? = some n ∧ x = .int n := by
  rw [List.getElem?_map] at h
  cases q : xs[i]? with
  | none => rw [q] at h; cases h
  | some z => rw [q] at h; exact ⟨z, rfl, (Option.some.inj h).symm⟩
theorem get_some {O G : Addr → Prop} {H : Hp} {kvs : List (Key × V)} {l : List (Int × List Int)} {n : Int} {ds : List Int} (t : Paired (RPg H O G) kvs l) (h : aget l n = some ds) : ∃ a, valV kvs (.inl n) = some (.ref a) ∧ Im H O G a ds := by
  rcases get_pr RPg.key n t with ⟨e1, e2⟩ | ⟨v, ds', e1, e2, _, a, ev, i⟩
  · rw [e2] at h; cases h
  · rw [e2] at h; cases h
    exact ⟨a, by rw [e1]; exact congrArg some ev, i⟩
section
variable {P : Program} {w : World} {K : PySem.W.Frag} {mg : Str → Option Value} {base : Heap} {c : Cl}
def sp_Pager_commit (c : Cl) : Sp := fun vs H Q E => ∃ (p q : Addr) (O Od : Addr → Prop) (s : PgS), vs = [.ref p] ∧ PagAt c H p q O Od s ∧ PgZ s ∧ s.dir.length ≤ 60 ∧ spP c H p q O (pcommit s) (Q .non) E
theorem ok_Pager_commit (T : Txt K mg c) : GM P w K mg base (L2N.CX P w) 3 c.Pager "commit" (sp_Pager_commit c) := by
  obtain ⟨f, fd, F, gf, gi⟩ := T.f_Pager_commit
  have tc_Device := T.cl_Device; have tn_Device_pages := T.n_Device_pages; have tn_Device_page_writes := T.n_Device_page_writes; have tn_Device_durable_log := T.n_Device_durable_log; have tn_Device_log_steps := T.n_Device_log_steps; have tn_Device_done := T.n_Device_done; have tn_Device_most := T.n_Device_most
  have tc_Pager := T.cl_Pager; have tn_Pager_device := T.n_Pager_device; have tn_Pager_committed := T.n_Pager_committed; have tn_Pager_dirty := T.n_Pager_dirty
  refine ⟨f, fd, ["self"], okXN F sc_Pager_commit ?_ (fun cdv A outer s0 H vs Q E hr h => ?_), ⟨gf, gi, F.kp⟩, (F.binds (ps := ["self"]) fun _ _ _ _ _ _ us hl => match us, hl with | [_], _ => rfl)⟩
  · rintro vs H Q E ⟨_, _, _, _, _, rfl, _⟩
    rfl
  · obtain ⟨p, q, O0, Od, s, rfl, hP, pz, d60, k⟩ := h
    obtain ⟨O, dx, a1, a2, k1, k2, eO, D, og⟩ := hP.opn
    have gd : Good (grp s.dir) := pz.good.resolve_right (by omega)
    have fr : ∀ {H'}, Kp (PagG p a1 a2 Od) H H' → ∀ b, H' b = none → O b := fun {H'} kk b hb => by
      rw [eO]
      by_cases z : O0 b
      · exact .inl z
      · exact .inr (kk.free hb fun g => z (og b g))
    have ho := D.o
    have h2 := D.h2
    have lk : k2.length = s.dir.length := D.p2.length
    have lg := wg_len gd
    have lgr : (grp s.dir).length = s.dir.length := by unfold grp; rw [List.length_map, skeys_len]
    refine ⟨_, (pss_cons (ps_if (pt_cmpR op_eq (pe_callB call_lenD (by rfl) T.z_len PySem.boot_len (pa_cons (pe_fldK rfl (pv 0)) pa_nil)) pe_int (nomark _)) (pss_one ps_retN) pss_nil)
      (pss_cons (ps_expr (pe_gm T.cl_Device (ok_Device_append T) (pe_fldK rfl (pv 0)) (hr.mono (by decide)) (passEN (E := E) rfl rfl rfl rfl) (pa_cons (pe_g (ok_write_group T) (hr.mono (by decide)) pass0S (pa_cons (pe_lc (own := [("number", 1)]) (g := (gName 1)) (tt := tYes) rfl sc_Pager_commit.nd (pi_listK rfl (pe_callB (c_sortedDI rfl) (by rfl) T.z_sorted (by decide +kernel) (pa_cons (pe_fldK rfl (pv 0)) pa_nil))) (blkOk_by (N := ["self", "number"]) (sc := defScope s_Pager_commit) (by decide +kernel)) (fun _ _ _ _ _ => (pg_name (i := 1) sc_Pager_commit.nd rfl (Or.inl rfl))) (fun _ _ _ _ _ => pts_nil) (fun _ _ _ _ _ => (pe_tup (pa_cons (pv 1) (pa_cons (pe_dget (hu_of hr) (pe_fldK rfl (pv 0)) (pv 1) (fun _ _ => rfl)) pa_nil))))) pa_nil)) pa_nil)))
      (pss_cons (ps_expr (pe_gm0 T.cl_Device (ok_Device_sync_log T) (pe_fldK rfl (pv 0)) (hr.mono (by decide)) (passEN (E := E) rfl rfl rfl rfl)))
      (pss_cons (ps_lock (ps_for (passes_of rfl) rfl (pi_keys (pe_fldK rfl (pv 0))) (pg_name (i := 1) sc_Pager_commit.nd rfl (Or.inl rfl)) (pss_one (ps_dput (hu_of hr) (pe_fldK rfl (pv 0)) (pv 1) (pe_dget (hu_of hr) (pe_fldK rfl (pv 0)) (pv 1) (fun _ _ => rfl)) rfl))))
      (pss_one (ps_fld (pv 0) pe_dnewK rfl)))))), ?_⟩
    walk_at "cx"
    walk_at "rd"
    refine ⟨a2, k2, rfl, h2, ?_⟩
    rw [lk]
    walk_at "rd"
    refine ite_dec (fun e => ?_) fun e => ?_
    · walk_at "rd"
      exact k.yes (s' := s) (by unfold pcommit; rw [if_pos (by omega)]) hP (Stp.refl _ _)
    · have epc : pcommit s = (if (andD (dApp (wg (grp s.dir)) s.dev) dSyncL).2 = true then { dev := (andD (dApp (wg (grp s.dir)) s.dev) dSyncL).1, com := coms s.dir s.com, dir := [] } else { s with dev := (andD (dApp (wg (grp s.dir)) s.dev) dSyncL).1 }, (andD (dApp (wg (grp s.dir)) s.dev) dSyncL).2) := by
        unfold pcommit; rw [if_neg (by omega)]
      obtain ⟨⟨dx2, b1, b2, b3, b4, kvs, ws, DD⟩, _⟩ := id D.dv
      have hq := DD.o
      walk_at "rd"
      refine x_srtD h2 (keys_pr D.p2) (by rw [List.length_map]; omega) fun ys ps H1 hy1 hy2 hps kk1 e1 => ?_
      obtain rfl := skeys_eq hy1 hy2
      have D1 := D.same kk1
      have ho1 := D1.o
      have hl1 : SqL K H1 ps ((skeys s.dir).map V.int) := SqL.of e1
      walk_at "rd"
      refine wlcH Wk.list F0 (fun D i acc H' => Paired (PAt (fun b => b ≠ D) H') acc ((grp s.dir).take i)) (fun b z => z.elim) (by rw [List.length_map, skeys_len]; omega) (fun D i acc H' _ kp => kp.sqL hl1 id) (fun D _ => .nil)
        (fun D i acc H' H4 kp hp => hp.mono fun _ _ x => x.kp kp fun b _ _ o z => o z)
        (fun D i x acc H' R R0 ex hD hacc hp kp hR _ => ?_) (fun gl H2 acc hgl egl hp kp2 => ?_)
      · obtain ⟨n, en, rfl⟩ := getE' ex
        obtain ⟨ds, hds, _⟩ := mem_skeys (List.mem_of_getElem? en)
        have D' := D1.same kp
        have ho' := D'.o
        have h2' := D'.h2
        obtain ⟨l, el, il⟩ := get_some D'.p2 hds
        walk_at "rd"
        refine ⟨rfl, ?_⟩
        walk_at "rd"
        refine x_dgI (.inl h2') el ?_
        walk_at "rd"
        refine x_newT fun t H3 ht k3 e3 => ?_
        refine hR _ H3 k3 ?_
        rw [List.take_succ, grp_at en]
        refine Paired.snoc (hp.mono fun _ _ x => x.kp k3 fun _ _ _ _ z => z) ⟨t, l, rfl, e3, ?_, fun z => ?_⟩
        · rw [hds]; exact k3.get il.1 id
        · have q1 := il.1
          obtain ⟨o1, q2⟩ : ∃ o, H1 l = some o := by
            obtain ⟨a', ea', ia'⟩ := get_some D1.p2 hds
            rw [el] at ea'; cases ea'
            exact ⟨_, ia'.1⟩
          rw [z, hD] at q2; cases q2
      rw [List.length_map, skeys_len, List.take_of_length_le (by omega)] at hp
      walk_at "rd"
      refine ⟨_, gl, acc, grp s.dir, rfl, SqL.of egl, hp, gd, fun bl H3 hbl k3 e3 => ?_⟩
      have k13 : Kp F0 H1 H3 := kp2.trans k3 fun _ z => z.elim
      have k03 : Kp F0 H H3 := kk1.trans k13 fun _ z => z.elim
      have D3 := D.same k03
      have hq3 := k03.get hq id
      have fbl : H bl = none := (kk1.trans kp2 fun _ z => z.elim).free hbl id
      have nod : ¬ Od bl := fun z => D.fresh fbl (.inr (.inr (.inr z)))
      walk_at "rd"
      refine ⟨q, Od, s.dev, bl, wg (grp s.dir), rfl, D3.dv, SqL.of e3, nod, pz.sml, by omega, fun H4 Od' V4 t4 => ?_⟩
      have kk3 : Kp (PagG p a1 a2 Od) H H3 := k03.mono fun _ z => z.elim
      have D4 := D3.dev V4 t4 (fr kk3)
      have kk4 : Kp (PagG p a1 a2 Od) H H4 := kk3.trans t4.kp fun _ z => .inl (.inr (.inr (.inr z)))
      have go : ∀ b, Od b ∨ H3 b = none → PagG p a1 a2 Od b ∨ H b = none := fun b z => by
        rcases z with z | z
        · exact .inl (.inr (.inr (.inr z)))
        · exact .inr (k03.free z id)
      refine ite_bool (fun e4 => ?_) fun e4 => ?_
      · have ho4 := D4.o
        obtain ⟨⟨dx4, c1, c2, c3, c4, kvs4, ws4, DD4⟩, _⟩ := id V4
        have hq4 := DD4.o
        walk_at "rd"
        refine ⟨q, Od', _, rfl, V4, pz.app (by omega), fun H5 Od5 V5 t5 => ?_⟩
        have D5 := D4.dev V5 t5 (fr kk4)
        have kk5 : Kp (PagG p a1 a2 Od) H H5 := kk4.trans t5.kp fun b z => go b (t4.gr b z)
        have ea : andD (dApp (wg (grp s.dir)) s.dev) dSyncL = dSyncL (dApp (wg (grp s.dir)) s.dev).1 := by unfold andD; rw [if_pos e4]
        rw [ea] at epc
        refine ite_bool (fun e5 => ?_) fun e5 => ?_
        · rw [if_pos e5, e5] at epc
          walk_at "rd"
          have h25 := D5.h2
          have np2 := D5.n2p
          refine x_lock h25 trivial fun od => ?_
          have k5L : Kp (PagG p a1 a2 Od) H (upd (upd H5 a2 (.frz od (.dK k2))) a2 (.dK k2)) := by rw [upd_upd, upd_id h25]; exact kk5
          have DL : PagA c O Od5 (upd (upd H5 a2 (.frz od (.dK k2))) a2 (.dK k2)) p q dx a1 a2 k1 k2 { s with dev := (dSyncL (dApp (wg (grp s.dir)) s.dev).1).1 } := by rw [upd_upd, upd_id h25]; exact D5
          have hp0 : (upd H5 a2 (.frz od (.dK k2)) : Hp) p = some (.ins c.Pager dx (F_Pager (.ref q) (.ref a1) (.ref a2))) := by rw [upd_ne np2]; exact D5.o
          refine x_for ?_
          refine x_keys ?_
          walk_at "rd"
          refine x_kq upd_same ?_
          refine wfor Wk.keys (fun i σ H' => ∃ k1' u, σ = [some (.ref p), u] ∧ H' a2 = some (.frz od (.dK k2)) ∧ PagA c O Od5 (upd H' a2 (.dK k2)) p q dx a1 a2 k1' k2 { s with dev := (dSyncL (dApp (wg (grp s.dir)) s.dev).1).1, com := (s.dir.take i).foldl (fun a q => aput a q.1 ((aget s.dir q.1).getD [])) s.com } ∧ k1'.length ≤ 100 + i ∧ Kp (PagG p a1 a2 Od) H (upd H' a2 (.dK k2)))
            ⟨k1, none, rfl, upd_same, DL, by have := D.p1.length; have := pz.nc; omega, k5L⟩ (fun i σ H' ⟨_, _, _, z, _⟩ => z) ?_ ?_
          · rintro i x σ H6 ex ⟨k1', u, rfl, e6, D6, l6, kk6⟩
            rw [List.getElem?_map] at ex
            cases e7 : k2[i]? with
            | none => rw [e7] at ex; cases ex
            | some kv =>
              rw [e7] at ex
              obtain ⟨r, er, rk, _⟩ := pget D6.p2 e7
              have er' : s.dir[i]? = some r := er
              have ex' : x = .int r.1 := (Option.some.inj ex).symm.trans (congrArg kV rk)
              subst ex'
              obtain ⟨ds, hds⟩ := aget_mem (List.mem_of_getElem? er')
              obtain ⟨l, el, il⟩ := get_some D6.p2 hds
              have ho6 : H6 p = some (.ins c.Pager dx (F_Pager (.ref q) (.ref a1) (.ref a2))) := by have z := D6.o; rwa [upd_ne D6.n2p] at z
              have h16 : H6 a1 = some (.dK k1') := by have z := D6.h1; rwa [upd_ne D6.ne] at z
              walk_at "rd"
              refine x_dgI (.inr ⟨od, e6⟩) el ?_
              walk_at "rd"
              refine x_dpI h16 (by have : i < k2.length := (List.getElem?_eq_some_iff.mp e7).1; omega) fun H7 e7' k7 => ?_
              have D7 := D6.put1 (ds := ds) il (k7.under a2 (.dK k2)) (by rw [upd_ne D6.ne]; exact e7')
              have l7 := D7.p1.length
              have l8 := aput_len ((s.dir.take i).foldl (fun a q => aput a q.1 ((aget s.dir q.1).getD [])) s.com) r.1 ds
              have l9 := D6.p1.length
              refine ⟨putK k1' (.inl r.1) (.ref l), some (.int r.1), rfl, k7.get e6 fun z => D6.ne z.symm, ?_, ?_, kk6.trans (k7.under a2 (.dK k2)) fun x z => .inl (.inr (.inl z))⟩
              · rw [List.take_succ, er', List.foldl_append]
                show PagA c O Od5 _ p q dx a1 a2 _ k2 { dev := _, com := aput _ r.1 ((aget s.dir r.1).getD []), dir := s.dir }
                rw [hds]
                exact D7
              · show _ ≤ 100 + (i + 1)
                rw [l7]
                refine Nat.le_trans l8 ?_
                rw [← show k1'.length = _ from l9]
                omega
          · rintro σ H6 ⟨k1', u, rfl, e6, D6, l6, kk6⟩
            rw [List.length_map, lk, List.take_length] at D6
            refine ⟨e6, ?_⟩
            have ho6 := D6.o
            generalize upd H6 a2 (.dK k2) = H7 at D6 kk6 ho6
            walk_at "rd"
            refine x_dnew fun e' H8 he' k8 e8 => ?_
            have ho8 := k8.get ho6 id
            walk_at "rd"
            intro H9 p9 k9
            have kz : Kp (F1 p) H7 H9 := (k8.mono fun _ z => z.elim).trans k9 fun _ z => .inl z
            have D9 := D6.new2 he' kz p9 (k9.get e8 (ne_of_none ho6 he').symm) (fr kk6 _ he')
            exact k.yes epc (D9.clo eO) (Stp.nO (kk6.trans kz fun _ z => .inl (.inl z)) og)
        · rw [if_neg (by rw [e5]; exact Bool.false_ne_true), e5] at epc
          exact k.no epc (D5.clo eO) (Stp.nO kk5 og)
      · have ea : andD (dApp (wg (grp s.dir)) s.dev) dSyncL = dApp (wg (grp s.dir)) s.dev := by unfold andD; rw [if_neg (by rw [e4]; exact Bool.false_ne_true)]
        rw [ea, if_neg (by rw [e4]; exact Bool.false_ne_true), e4] at epc
        exact k.no epc (D4.clo eO) (Stp.nO kk4 og)
theorem pwrites_app : ∀ (ws : List (Int × List Int)) (d : DevS) (q : Int × List Int), (pwrites ws d).2 = true → pwrites (ws ++ [q]) d = dWrite q.1 q.2 (pwrites ws d).1
  | [], d, q, _ => by
    show (if (dWrite q.1 q.2 d).2 = true then ((dWrite q.1 q.2 d).1, true) else (d, false)) = dWrite q.1 q.2 d
    unfold dWrite pw
    by_cases h : can d = true
    · rw [if_pos h, if_pos rfl]
    · rw [if_neg h, if_neg Bool.false_ne_true]
  | r :: ws, d, q, h => by
    show (if (dWrite r.1 r.2 d).2 = true then pwrites (ws ++ [q]) (dWrite r.1 r.2 d).1 else (d, false)) = _
    by_cases y : (dWrite r.1 r.2 d).2 = true
    · have e : pwrites (r :: ws) d = pwrites ws (dWrite r.1 r.2 d).1 := by show (if _ then _ else _) = _; rw [if_pos y]
      rw [if_pos y, e]
      rw [e] at h
      exact pwrites_app ws _ q h
    · have e : pwrites (r :: ws) d = (d, false) := by show (if _ then _ else _) = _; rw [if_neg y]
      rw [e] at h
      cases h
theorem dWrite_no {n : Int} {ds : List Int} {d : DevS} (h : (dWrite n ds d).2 = false) : (dWrite n ds d).1 = d := by
  unfold dWrite pw at *
  by_cases q : can d = true
  · rw [if_pos q] at h; cases h
  · rw [if_neg q]
theorem pwrites_stop : ∀ (ws vs : List (Int × List Int)) (d : DevS) (q : Int × List Int), (pwrites ws d).2 = true → (dWrite q.1 q.2 (pwrites ws d).1).2 = false → pwrites (ws ++ q :: vs) d = ((pwrites ws d).1, false)
  | [], vs, d, q, _, h => by
    show (if (dWrite q.1 q.2 d).2 = true then _ else (d, false)) = (d, false)
    rw [if_neg (by rw [show (dWrite q.1 q.2 d).2 = false from h]; exact Bool.false_ne_true)]
  | r :: ws, vs, d, q, h, g => by
    show (if (dWrite r.1 r.2 d).2 = true then pwrites (ws ++ q :: vs) (dWrite r.1 r.2 d).1 else (d, false)) = _
    by_cases y : (dWrite r.1 r.2 d).2 = true
    · have e : pwrites (r :: ws) d = pwrites ws (dWrite r.1 r.2 d).1 := by show (if _ then _ else _) = _; rw [if_pos y]
      rw [if_pos y, e]
      rw [e] at h g
      exact pwrites_stop ws vs _ q h g
    · have e : pwrites (r :: ws) d = (d, false) := by show (if _ then _ else _) = _; rw [if_neg y]
      rw [e] at h
      cases h
/-- the writes of a checkpoint change the pending writes alone -/
theorem pwrites_sm : ∀ (ws : List (Int × List Int)) (d : DevS), (pwrites ws d).1.pages = d.pages ∧ (pwrites ws d).1.log = d.log ∧ (pwrites ws d).1.steps = d.steps ∧ (pwrites ws d).1.writes.length ≤ d.writes.length + ws.length ∧ (Sz d.writes → Sz ws → Sz (pwrites ws d).1.writes)
  | [], d => ⟨rfl, rfl, rfl, Nat.le_refl _, fun h _ => h⟩
  | r :: ws, d => by
    have h := pwrites_sm ws (dWrite r.1 r.2 d).1
    by_cases y : (dWrite r.1 r.2 d).2 = true
    · have e : pwrites (r :: ws) d = pwrites ws (dWrite r.1 r.2 d).1 := by show (if _ then _ else _) = _; rw [if_pos y]
      rw [e]
      have e2 : dWrite r.1 r.2 d = ({ d with done := d.done + 1, writes := d.writes ++ [(r.1, r.2)] }, true) := by
        unfold dWrite pw at *
        by_cases q : can d = true
        · rw [if_pos q]
        · rw [if_neg q] at y; cases y
      rw [e2] at h ⊢
      refine ⟨h.1, h.2.1, h.2.2.1, ?_, fun h1 h2 => h.2.2.2.2 ?_ fun q hq => h2 q (List.mem_cons_of_mem _ hq)⟩
      · have := h.2.2.2.1
        simp only [List.length_append, List.length_cons, List.length_nil] at this ⊢
        omega
      · intro q hq
        rcases List.mem_append.mp hq with hq | hq
        · exact h1 q hq
        · rw [List.mem_singleton.mp hq]; exact h2 r (by simp)
    · have e : pwrites (r :: ws) d = (d, false) := by show (if _ then _ else _) = _; rw [if_neg y]
      rw [e]
      exact ⟨rfl, rfl, rfl, Nat.le_add_right _ _, fun h1 _ => h1⟩
theorem grp_sz {l : List (Int × List Int)} (h : ∀ q ∈ l, q.2.length = 256) : Sz (grp l) := fun x hx => by
  unfold grp at hx
  obtain ⟨n, hn, rfl⟩ := List.mem_map.mp hx
  obtain ⟨d, hd, hm⟩ := mem_skeys hn
  rw [hd]
  exact Nat.le_of_eq (h _ hm)
/-- the sizes that a checkpoint needs -/
structure CkZ (s : PgS) : Prop where
  w : s.dev.writes.length ≤ 400000
  p : s.dev.pages.length + s.dev.writes.length ≤ 1000000
  l : s.dev.log.length + s.dev.steps.length ≤ 7000000
  z1 : Sz s.dev.pages
  z2 : Sz s.dev.writes
  nc : s.com.length < 64
  lc : ∀ q ∈ s.com, q.2.length = 256
theorem PgZ.ck {s : PgS} (h : PgZ s) : CkZ s := ⟨h.w, h.p, h.l, h.z1, h.z2, h.nc, h.lc⟩
def sp_Pager_checkpoint (c : Cl) : Sp := fun vs H Q E => ∃ (p q : Addr) (O Od : Addr → Prop) (s : PgS), vs = [.ref p] ∧ PagAt c H p q O Od s ∧ CkZ s ∧ spP c H p q O (pckpt s) (Q .non) E
theorem andD_yes {r : DevS × Bool} {f : DevS → DevS × Bool} (h : r.2 = true) : andD r f = f r.1 := by unfold andD; rw [if_pos h]
theorem andD_no {r : DevS × Bool} {f : DevS → DevS × Bool} (h : r.2 = false) : andD r f = r := by unfold andD; rw [if_neg (by rw [h]; exact Bool.false_ne_true)]
theorem ok_Pager_checkpoint (T : Txt K mg c) : GM P w K mg base (L2N.CX P w) 3 c.Pager "checkpoint" (sp_Pager_checkpoint c) := by
  obtain ⟨f, fd, F, gf, gi⟩ := T.f_Pager_checkpoint
  have tc_Device := T.cl_Device; have tn_Device_pages := T.n_Device_pages; have tn_Device_page_writes := T.n_Device_page_writes; have tn_Device_durable_log := T.n_Device_durable_log; have tn_Device_log_steps := T.n_Device_log_steps; have tn_Device_done := T.n_Device_done; have tn_Device_most := T.n_Device_most
  have tc_Pager := T.cl_Pager; have tn_Pager_device := T.n_Pager_device; have tn_Pager_committed := T.n_Pager_committed; have tn_Pager_dirty := T.n_Pager_dirty
  refine ⟨f, fd, ["self"], okXN F sc_Pager_checkpoint ?_ (fun cdv A outer s0 H vs Q E hr h => ?_), ⟨gf, gi, F.kp⟩, (F.binds (ps := ["self"]) fun _ _ _ _ _ _ us hl => match us, hl with | [_], _ => rfl)⟩
  · rintro vs H Q E ⟨_, _, _, _, _, rfl, _⟩
    rfl
  · obtain ⟨p, q, O0, Od, s, rfl, hP, pz, k⟩ := h
    obtain ⟨O, dx, a1, a2, k1, k2, eO, D, og⟩ := hP.opn
    have fr : ∀ {H'}, Kp (PagG p a1 a2 Od) H H' → ∀ b, H' b = none → O b := fun {H'} kk b hb => by
      rw [eO]
      by_cases z : O0 b
      · exact .inl z
      · exact .inr (kk.free hb fun g => z (og b g))
    have ho := D.o
    have h1 := D.h1
    have lk : k1.length = s.com.length := D.p1.length
    have lgr : (grp s.com).length = s.com.length := by unfold grp; rw [List.length_map, skeys_len]
    have gsz := grp_sz pz.lc
    have nc := pz.nc
    have pzw := pz.w; have pzp := pz.p; have pzl := pz.l
    refine ⟨_, (pss_cons (ps_for (passes_of rfl) rfl (pi_listK rfl (pe_callB (c_sortedDI rfl) (by rfl) T.z_sorted (by decide +kernel) (pa_cons (pe_fldK rfl (pv 0)) pa_nil))) (pg_name (i := 1) sc_Pager_checkpoint.nd rfl (Or.inl rfl)) (pss_one (ps_expr (pe_gm T.cl_Device (ok_Device_write_page T) (pe_fldK rfl (pv 0)) (hr.mono (by decide)) (passEN (E := E) rfl rfl rfl rfl) (pa_cons (pv 1) (pa_cons (pe_dget (hu_of hr) (pe_fldK rfl (pv 0)) (pv 1) (fun _ _ => rfl)) pa_nil))))))
      (pss_cons (ps_expr (pe_gm0 T.cl_Device (ok_Device_sync_pages T) (pe_fldK rfl (pv 0)) (hr.mono (by decide)) (passEN (E := E) rfl rfl rfl rfl)))
      (pss_cons (ps_expr (pe_gm0 T.cl_Device (ok_Device_clear T) (pe_fldK rfl (pv 0)) (hr.mono (by decide)) (passEN (E := E) rfl rfl rfl rfl)))
      (pss_cons (ps_expr (pe_gm0 T.cl_Device (ok_Device_sync_log T) (pe_fldK rfl (pv 0)) (hr.mono (by decide)) (passEN (E := E) rfl rfl rfl rfl)))
      (pss_one (ps_fld (pv 0) pe_dnewK rfl)))))), ?_⟩
    walk_at "cx"
    walk_at "rd"
    refine x_srtD h1 (keys_pr D.p1) (by rw [List.length_map]; omega) fun ys ps H1 hy1 hy2 hps kk1 e1 => ?_
    obtain rfl := skeys_eq hy1 hy2
    have D1 := D.same kk1
    have nps := D.fresh hps
    have go : ∀ b, Od b ∨ H1 b = none → PagG p a1 a2 Od b ∨ H b = none := fun b z => by
      rcases z with z | z
      · exact .inl (.inr (.inr (.inr z)))
      · exact .inr (kk1.free z id)
    walk_at "rd"
    refine wfor Wk.list (fun i σ H' => ∃ u Od', σ = [some (.ref p), u] ∧ (pwrites ((grp s.com).take i) s.dev).2 = true ∧ PagA c O Od' H' p q dx a1 a2 k1 k2 { s with dev := (pwrites ((grp s.com).take i) s.dev).1 } ∧ Stp Od Od' H1 H' ∧ Kp (PagG p a1 a2 Od) H H')
      ⟨none, Od, rfl, rfl, D1, Stp.refl _ _, kk1.mono fun _ z => z.elim⟩ (fun i σ H' ⟨_, _, _, _, _, t, _⟩ => SqL.of (t.kp.get e1 fun z => nps (.inr (.inr (.inr z))))) ?_ ?_
    · rintro i x σ H2 ex ⟨u, Od', rfl, hb, D2, t2, kk2⟩
      obtain ⟨n, en, rfl⟩ := getE' ex
      obtain ⟨ds, hds, _⟩ := mem_skeys (List.mem_of_getElem? en)
      obtain ⟨l, el, il⟩ := get_some D2.p1 hds
      have ho2 := D2.o
      have h12 := D2.h1
      obtain ⟨⟨dx2, b1, b2, b3, b4, kvs, ws, DD⟩, _⟩ := id D2.dv
      have hq := DD.o
      have tk : (grp s.com).take (i + 1) = (grp s.com).take i ++ [(n, ds)] := by rw [List.take_succ, grp_at en, hds]; rfl
      have sm := pwrites_sm ((grp s.com).take i) s.dev
      have tl : ((grp s.com).take i).length ≤ (grp s.com).length := by rw [List.length_take]; omega
      have sm4 := sm.2.2.2.1
      have sz0 : Sml (pwrites ((grp s.com).take i) s.dev).1 := ⟨by omega, by rw [sm.1]; omega, by rw [sm.2.1, sm.2.2.1]; omega, by rw [sm.1]; exact pz.z1, sm.2.2.2.2 pz.z2 fun x hx => gsz x (List.mem_of_mem_take hx)⟩
      walk_at "rd"
      refine x_dgI (.inl h12) el ?_
      walk_at "rd"
      refine ⟨q, Od', _, n, l, ds, rfl, D2.dv, SqL.of il.1, fun z => il.2.2 (.inr (.inr (.inr z))), sz0, fun H3 Od3 V3 t3 => ?_⟩
      have D3 := D2.dev V3 t3 (fr kk2)
      have kk3 : Kp (PagG p a1 a2 Od) H H3 := kk2.trans t3.kp fun b z => go b (t2.gr b z)
      have ea := pwrites_app ((grp s.com).take i) s.dev (n, ds) hb
      refine ite_bool (fun e3 => ?_) fun e3 => ?_
      · refine ⟨_, Od3, rfl, by rw [tk, ea]; exact e3, by rw [tk, ea]; exact D3, t2.trans t3, kk3⟩
      · have e : pwrites (grp s.com) s.dev = ((pwrites ((grp s.com).take i) s.dev).1, false) := by
          have q := pwrites_stop ((grp s.com).take i) ((grp s.com).drop (i + 1)) s.dev (n, ds) hb e3
          have hg := grp_at en
          rw [hds] at hg
          have hi : i < (grp s.com).length := (List.getElem?_eq_some_iff.mp hg).1
          have hbi : (grp s.com)[i] = (n, ds) := (List.getElem?_eq_some_iff.mp hg).2
          rw [← hbi, ← List.drop_eq_getElem_cons hi, List.take_append_drop] at q
          exact q
        have eq : pckpt s = ({ s with dev := (pwrites ((grp s.com).take i) s.dev).1 }, false) := by
          unfold pckpt; rw [e]; rfl
        rw [dWrite_no e3] at D3
        exact k.no eq (D3.clo eO) (Stp.nO kk3 og)
    · rintro σ H2 ⟨u, Od', rfl, hb, D2, t2, kk2⟩
      rw [List.length_map, skeys_len, ← lgr, List.take_length] at hb D2
      generalize hr1 : pwrites (grp s.com) s.dev = r1 at hb D2
      have sm := pwrites_sm (grp s.com) s.dev
      rw [hr1] at sm
      have sm4 := sm.2.2.2.1
      have eck : pckpt s = (if (andD (andD (dSyncP r1.1) (dByte none)) dSyncL).2 = true then { s with dev := (andD (andD (dSyncP r1.1) (dByte none)) dSyncL).1, com := [] } else { s with dev := (andD (andD (dSyncP r1.1) (dByte none)) dSyncL).1 }, (andD (andD (dSyncP r1.1) (dByte none)) dSyncL).2) := by
        unfold pckpt; rw [hr1, andD_yes hb]
      have sz1 : Sml r1.1 := ⟨by omega, by rw [sm.1]; omega, by rw [sm.2.1, sm.2.2.1]; omega, by rw [sm.1]; exact pz.z1, sm.2.2.2.2 pz.z2 gsz⟩
      have ho2 := D2.o
      obtain ⟨⟨dx2, b1, b2, b3, b4, kvs, ws, DD⟩, _⟩ := id D2.dv
      have hq := DD.o
      walk_at "rd"
      refine ⟨q, Od', _, rfl, D2.dv, sz1, fun H3 Od3 V3 t3 => ?_⟩
      have D3 := D2.dev V3 t3 (fr kk2)
      have kk3 : Kp (PagG p a1 a2 Od) H H3 := kk2.trans t3.kp fun b z => go b (t2.gr b z)
      have t23 := t2.trans t3
      refine ite_bool (fun e3 => ?_) fun e3 => ?_
      · rw [andD_yes e3] at eck
        have sz2 : Sml (dSyncP r1.1).1 := by
          have h1 := sz1.1; have h2 := sz1.2.1; have h3 := sz1.2.2.1
          unfold dSyncP pw; split
          · have := puts_len r1.1.writes r1.1.pages
            exact ⟨Nat.zero_le _, by show (r1.1.writes.foldl (fun l q => aput l q.1 q.2) r1.1.pages).length + 0 ≤ 2000000; omega, h3, puts_sz sz1.2.2.2.1 sz1.2.2.2.2, fun q hq => by cases hq⟩
          · exact sz1
        have sl2 : (dSyncP r1.1).1.log = r1.1.log ∧ (dSyncP r1.1).1.steps = r1.1.steps := by unfold dSyncP pw; split <;> exact ⟨rfl, rfl⟩
        have ho3 := D3.o
        obtain ⟨⟨dx3, c1, c2, c3, c4, kvs3, ws3, DD3⟩, _⟩ := id V3
        have hq3 := DD3.o
        walk_at "rd"
        refine ⟨q, Od3, _, rfl, D3.dv, sz2, fun H4 Od4 V4 t4 => ?_⟩
        have D4 := D3.dev V4 t4 (fr kk3)
        have kk4 : Kp (PagG p a1 a2 Od) H H4 := kk3.trans t4.kp fun b z => go b (t23.gr b z)
        have t24 := t23.trans t4
        refine ite_bool (fun e4 => ?_) fun e4 => ?_
        · rw [andD_yes e4] at eck
          have sz3 : Sml (dByte none (dSyncP r1.1).1).1 := by
            unfold dByte pw; split
            · refine ⟨sz2.1, sz2.2.1, ?_, sz2.2.2.2⟩
              show (dSyncP r1.1).1.log.length + ((dSyncP r1.1).1.steps ++ [none]).length ≤ 8000000
              rw [sl2.1, sl2.2, List.length_append, sm.2.1, sm.2.2.1]
              show _ + (_ + 1) ≤ _
              omega
            · exact sz2
          have ho4 := D4.o
          obtain ⟨⟨dx4, f1, f2, f3, f4, kvs4, ws4, DD4⟩, _⟩ := id V4
          have hq4 := DD4.o
          walk_at "rd"
          refine ⟨q, Od4, _, rfl, D4.dv, sz3, fun H5 Od5 V5 t5 => ?_⟩
          have D5 := D4.dev V5 t5 (fr kk4)
          have kk5 : Kp (PagG p a1 a2 Od) H H5 := kk4.trans t5.kp fun b z => go b (t24.gr b z)
          refine ite_bool (fun e5 => ?_) fun e5 => ?_
          · rw [if_pos e5, e5] at eck
            have ho5 := D5.o
            walk_at "rd"
            refine x_dnew fun e' H8 he' k8 e8 => ?_
            have ho8 := k8.get ho5 id
            walk_at "rd"
            intro H9 p9 k9
            have kz : Kp (F1 p) H5 H9 := (k8.mono fun _ z => z.elim).trans k9 fun _ z => .inl z
            have D9 := D5.new1 he' kz p9 (k9.get e8 (ne_of_none ho5 he').symm) (fr kk5 _ he')
            exact k.yes eck (D9.clo eO) (Stp.nO (kk5.trans kz fun _ z => .inl (.inl z)) og)
          · rw [if_neg (by rw [e5]; exact Bool.false_ne_true), e5] at eck
            exact k.no eck (D5.clo eO) (Stp.nO kk5 og)
        · rw [andD_no e4, if_neg (by rw [e4]; exact Bool.false_ne_true), e4] at eck
          exact k.no eck (D4.clo eO) (Stp.nO kk4 og)
      · rw [andD_no (f := dByte none) e3, andD_no e3, if_neg (by rw [e3]; exact Bool.false_ne_true), e3] at eck
        exact k.no eck (D3.clo eO) (Stp.nO kk3 og)
end
/-- the pages that the groups of a log hold -/
def puts (m : List (Int × List Int)) (g : List (Int × List Int)) : List (Int × List Int) := g.foldl (fun l q => aput l q.1 q.2) m
def pini0 (gs : List (List (Int × List Int))) (d : DevS) : PgS := { dev := d, com := gs.foldl puts [], dir := [] }
def pini1 (gs : List (List (Int × List Int))) (d : DevS) : PgS × Bool := if 0 < (clog d).length then pckpt (pini0 gs d) else (pini0 gs d, true)
def pinit (gs : List (List (Int × List Int))) (d : DevS) : PgS × Bool := if (pini1 gs d).2 = true then (cnth (pini1 gs d).1, true) else pini1 gs d
section
variable {P : Program} {w : World} {K : PySem.W.Frag} {mg : Str → Option Value} {base : Heap} {c : Cl}
theorem pini1_dir (gs : List (List (Int × List Int))) (d : DevS) : (pini1 gs d).1.dir = [] := by
  unfold pini1 pckpt
  split
  · dsimp only; split <;> rfl
  · rfl
def sp_Pager_init (c : Cl) : Sp := fun vs H Q E => ∃ (p dx q : Addr) (Od : Addr → Prop) (d : DevS) (gs : List (List (Int × List Int))) (more : List (Int × List Int)) (j : Nat), vs = [.ref p, .ref q] ∧ H p = some (.ins c.Pager dx []) ∧ DevAt c H q Od d ∧ ¬ Od p ∧
  clog d = gs.flatMap wg ++ (wg more).take j ∧ j < (wg more).length ∧ (∀ g ∈ gs, Good g) ∧ Good more ∧ gs.length ≤ 1000 ∧ CkZ (pini0 gs d) ∧ ((pini1 gs d).2 = true → (gpg (pini1 gs d).1 0).length = 256) ∧
  spP c H p q (fun b => b = p ∨ Od b) (pinit gs d) (Q .non) E
theorem mk_Pager (T : Txt K mg c) : GC P w K mg base (L2N.CX P w) 6 "Pager" c.Pager (sp_Pager_init c) := by
  obtain ⟨f, fd, F, gf, gi⟩ := T.f_Pager___init__
  have tc_Device := T.cl_Device; have tn_Device_pages := T.n_Device_pages; have tn_Device_page_writes := T.n_Device_page_writes; have tn_Device_durable_log := T.n_Device_durable_log; have tn_Device_log_steps := T.n_Device_log_steps; have tn_Device_done := T.n_Device_done; have tn_Device_most := T.n_Device_most
  have tc_Pager := T.cl_Pager; have tn_Pager_device := T.n_Pager_device; have tn_Pager_committed := T.n_Pager_committed; have tn_Pager_dirty := T.n_Pager_dirty
  refine ⟨f, fd, ["self", "device"], okXN F sc_Pager___init__ ?_ (fun cdv A outer s0 H vs Q E hr h => ?_), ⟨T.mk_Pager.1, gf, gi, T.mk_Pager.2⟩, T.mg_Pager, (F.binds (ps := ["self", "device"]) fun _ _ _ _ _ _ us hl => match us, hl with | [_, _], _ => rfl)⟩
  · rintro vs H Q E ⟨_, _, _, _, _, _, _, _, rfl, _⟩
    rfl
  · obtain ⟨p, dx, q, Od, d, gs, more, j, rfl, hp, hd, nop, elog, hj, hgs, hm, lgs, pz, hpg, k⟩ := h
    refine ⟨_, (pss_cons (ps_fld (pv 0) (pv 1) rfl)
      (pss_cons (ps_fld (pv 0) pe_dnewK rfl)
      (pss_cons (ps_fld (pv 0) pe_dnewK rfl)
      (pss_cons (ps_set (i := 2) sc_Pager___init__.nd rfl (Or.inl rfl) (pe_gm0 T.cl_Device (ok_Device_log T) (pv 1) (hr.mono (by decide)) pass0S))
      (pss_cons (ps_for (passes_of rfl) rfl (pi_listK rfl (pe_g (ok_read_groups T) (hr.mono (by decide)) pass0S (pa_cons (pv 2) pa_nil))) (pg_name (i := 3) sc_Pager___init__.nd rfl (Or.inl rfl)) (pss_one (ps_for (passes_of rfl) rfl (pi_listK rfl (pv 3)) (pg_kT rfl (pg_tup (n := 2) rfl (pgs_cons (pg_name (i := 4) sc_Pager___init__.nd rfl (Or.inl rfl)) (pgs_cons (pg_name (i := 5) sc_Pager___init__.nd rfl (Or.inl rfl)) pgs_nil)))) (pss_one (ps_dput (hu_of hr) (pe_fldK rfl (pv 0)) (pv 4) (pv 5) rfl)))))
      (C8.pss_cut (ps_if (pt_cmpR op_gt (pe_callB (r := rLenQ K) c_len (by rfl) T.z_len PySem.boot_len (pa_cons (pv 2) pa_nil)) pe_int (nomark _)) (pss_one (ps_expr (pe_gm0 T.cl_Pager (ok_Pager_checkpoint T) (pv 0) (hr.mono (by decide)) (passEN (E := E) rfl rfl rfl rfl)))) pss_nil)
      (pss_one (ps_expr (pe_gm0 T.cl_Pager (ok_Pager_count_head T) (pv 0) (hr.mono (by decide)) pass0S))))))))), ?_⟩
    walk_at "cx"
    walk_at "rd"
    intro H1 p1 k1
    walk_at "rd"
    refine x_dnew fun a1 H2 ha1 k2 e1 => ?_
    have n1 : p ≠ a1 := ne_of_none p1 ha1
    walk_at "rd"
    intro H3 p3 k3
    have e13 := k3.get e1 n1.symm
    walk_at "rd"
    refine x_dnew fun a2 H4 ha2 k4 e2 => ?_
    have n2 : p ≠ a2 := ne_of_none p3 ha2
    have n12 : a1 ≠ a2 := ne_of_none e13 ha2
    walk_at "rd"
    intro H5 p5 k5
    have e15 := k5.get (k4.get e13 id) n1.symm
    have e25 := k5.get e2 n2.symm
    have k13 : Kp (F1 p) H H3 := ((k1.trans k2 fun _ z => z.elim).trans k3 fun _ z => .inl z)
    have k05 : Kp (F1 p) H H5 := (k13.trans k4 fun _ z => z.elim).trans k5 fun _ z => .inl z
    have fa1 : H a1 = none := k1.free ha1 n1.symm
    have fa2 : H a2 = none := k13.free ha2 n2.symm
    have V5 := hd.off k05 fun b z o => nop (by rw [← z]; exact o)
    obtain ⟨⟨dx2, b1, b2, b3, b4, kvs, ws, DD⟩, _⟩ := id V5
    have hq := DD.o
    generalize eO : (fun x => (x = p ∨ Od x) ∨ H x = none) = O
    have D5 : PagA c O Od H5 p q dx a1 a2 [] [] { dev := d, com := [], dir := [] } := by
      refine ⟨p5, V5, e15, .nil, e25, .nil, n12, nop, fun z => hd.fresh fa1 z, fun z => hd.fresh fa2 z, fun b z => ?_⟩
      rw [← eO]
      rcases z with z | z | z | z
      · exact .inl (.inl z)
      · rw [z]; exact .inr fa1
      · rw [z]; exact .inr fa2
      · exact .inl (.inr z)
    have pzw := pz.w; have pzp := pz.p; have pzl := pz.l
    have smd : Sml d := ⟨by show (pini0 gs d).dev.writes.length ≤ _; omega, by show (pini0 gs d).dev.pages.length + (pini0 gs d).dev.writes.length ≤ _; omega, by show (pini0 gs d).dev.log.length + (pini0 gs d).dev.steps.length ≤ _; omega, pz.z1, pz.z2⟩
    walk_at "rd"
    refine ⟨q, Od, d, rfl, V5, smd, fun lg H6 hlg k6 e6 => ?_⟩
    walk_at "rd"
    refine ⟨lg, clog d, gs, more, j, rfl, SqL.of e6, elog, hj, hgs, hm, by omega, fun r H7 hr7 k7 hr => ?_⟩
    have D6 := D5.same k6
    have D7 := D6.same k7
    have e67 := k7.get e6 id
    obtain ⟨vs, er, or, hv⟩ := id hr
    have k06 : Kp (F1 p) H H6 := k05.trans k6 fun _ z => z.elim
    have k07 : Kp (F1 p) H H7 := k06.trans k7 fun _ z => z.elim
    have na1 : ∀ b, H6 b = none → b ≠ a1 := fun b hb z => by
      have := D6.h1
      rw [← z, hb] at this; cases this
    walk_at "rd"
    refine wfor Wk.list (fun i σ H' => ∃ k1' u3 u4 u5, σ = [some (.ref p), some (.ref q), some (.ref lg), u3, u4, u5] ∧ PagA c O Od H' p q dx a1 a2 k1' [] { dev := d, com := (gs.take i).foldl puts [], dir := [] } ∧ k1'.length ≤ 60 * i ∧ Kp (F1 a1) H7 H')
      ⟨[], none, none, none, rfl, D7, Nat.le_refl _, Kp.refl _⟩ (fun i σ H' ⟨_, _, _, _, _, _, _, kk⟩ => SqL.of (kk.get er (na1 _ or))) ?_ ?_
    · rintro i x σ H8 ex ⟨k1', u3, u4, u5, rfl, D8, l8, kk8⟩
      obtain ⟨g, eg, hg⟩ := pgt hv ex
      have gg := hgs g (List.mem_of_getElem? eg)
      obtain ⟨a, ws2, rfl, ha, oa, hw⟩ := hg.kp kk8 fun b _ _ o => na1 b o
      walk_at "rd"
      refine wfor Wk.list (fun t σ H' => ∃ k1' u4 u5, σ = [some (.ref p), some (.ref q), some (.ref lg), some (.ref a), u4, u5] ∧ PagA c O Od H' p q dx a1 a2 k1' [] { dev := d, com := (g.take t).foldl (fun l q => aput l q.1 q.2) ((gs.take i).foldl puts []), dir := [] } ∧ k1'.length ≤ 60 * i + t ∧ Kp (F1 a1) H7 H' ∧ Kp (F1 a1) H8 H')
        ⟨k1', u4, u5, rfl, D8, l8, kk8, Kp.refl _⟩ (fun i σ H' ⟨_, _, _, _, _, _, _, kk⟩ => SqL.of (kk.get ha (na1 _ oa))) ?_ ?_
      · rintro t y σ H9 ey ⟨k1'', u4, u5, rfl, D9, l9, kk9, kk89⟩
        obtain ⟨r', er', tp, l, rfl, ht, hl, ol⟩ := pgt hw ey
        have ht9 := kk89.tup ht
        have hl9 := kk89.get hl (na1 _ ol)
        have ho9 := D9.o
        have h19 := D9.h1
        have lt : t < g.length := (List.getElem?_eq_some_iff.mp er').1
        have := gg.n
        have li : i < gs.length := (List.getElem?_eq_some_iff.mp eg).1
        walk_at "rd"
        refine x_dpI h19 (by omega) fun H10 e10 k10 => ?_
        have D10 := D9.put1 (ds := r'.2) ⟨hl9, by rw [← eO]; exact .inr (k06.free ol fun z => by rw [z, D6.o] at ol; cases ol), D6.fresh ol⟩ k10 e10
        have l10 := D10.p1.length
        have l11 := aput_len ((g.take t).foldl (fun l q => aput l q.1 q.2) ((gs.take i).foldl puts [])) r'.1 r'.2
        have l12 := D9.p1.length
        refine ⟨putK k1'' (.inl r'.1) (.ref l), some (.int r'.1), some (.ref l), rfl, ?_, ?_, kk9.trans k10 fun _ z => .inl z, kk89.trans k10 fun _ z => .inl z⟩
        · rw [List.take_succ, er', List.foldl_append]
          exact D10
        · rw [l10]
          refine Nat.le_trans l11 ?_
          rw [← show k1''.length = _ from l12]
          omega
      · rintro σ H9 ⟨k1'', u4, u5, rfl, D9, l9, kk9, kk89⟩
        rw [show ws2.length = g.length from hw.length] at D9 l9
        rw [List.take_length] at D9
        refine ⟨k1'', some (.ref a), u4, u5, rfl, ?_, by have := gg.n; omega, kk9⟩
        rw [List.take_succ, eg, List.foldl_append]
        exact D9
    · rintro σ H8 ⟨k1', u3, u4, u5, rfl, D8, l8, kk8⟩
      rw [show vs.length = gs.length from hv.length, List.take_length] at D8
      have e68 := kk8.get e67 (fun z => by
        have := D7.h1
        rw [← z, e67] at this; cases this)
      have k08 : Kp (fun b => b = p ∨ Od b) H H8 := (k07.mono fun _ z => .inl (.inl z)).trans kk8 fun x z => .inr (by rw [z]; exact fa1)
      have P8 : PagAt c H8 p q (nO (fun b => b = p ∨ Od b) H H8) Od (pini0 gs d) := D8.clo eO.symm
      have S8 : Stp (fun b => b = p ∨ Od b) (nO (fun b => b = p ∨ Od b) H H8) H H8 := Stp.nO k08 fun _ z => z
      have ho8 := D8.o
      walk_at "rd"
      refine x_cut (fun σ' H' => ∃ O' Od' u3 u4 u5, σ' = [some (.ref p), some (.ref q), some (.ref lg), u3, u4, u5] ∧ (pini1 gs d).2 = true ∧ PagAt c H' p q O' Od' (pini1 gs d).1 ∧ Stp (fun b => b = p ∨ Od b) O' H H') ?_ ?_
      · walk_at "rd"
        rw [List.length_map]
        refine ite_dec (fun e => ?_) fun e => ?_
        · have ei : pini1 gs d = pckpt (pini0 gs d) := by unfold pini1; rw [if_pos (by omega)]
          walk_at "rd"
          refine ⟨p, q, _, Od, _, rfl, P8, pz, fun H9 O9 Od9 P9 s9 => ?_⟩
          rw [← ei] at P9 ⊢
          refine ite_bool (fun e9 => ?_) fun e9 => ?_
          · exact ⟨O9, Od9, u3, u4, u5, rfl, e9, P9, S8.trans s9⟩
          · have ep : pinit gs d = ((pini1 gs d).1, false) := by unfold pinit; rw [if_neg (by rw [e9]; exact Bool.false_ne_true)]; rw [← e9]
            exact k.no ep P9 (S8.trans s9)
        · have ei : pini1 gs d = (pini0 gs d, true) := by unfold pini1; rw [if_neg (by omega)]
          exact ⟨_, Od, u3, u4, u5, rfl, by rw [ei], by rw [ei]; exact P8, S8⟩
      · rintro σ' H9 ⟨O9, Od9, u3, u4, u5, rfl, e9, P9, s9⟩
        obtain ⟨⟨dx, a1, a2, k1, k2, D9⟩, _⟩ := id P9
        have ho9 := D9.o
        have ep : pinit gs d = (cnth (pini1 gs d).1, true) := by unfold pinit; rw [if_pos e9]
        walk_at "rd"
        refine ⟨p, q, O9, Od9, _, rfl, P9, by rw [pini1_dir]; exact Nat.zero_le _, hpg e9, fun H10 O10 P10 s10 => ?_⟩
        exact k.yes ep P10 (s9.trans s10)
end
/-! ### views of a pager, in plain Lean -/
def vf (v : Int → List Int) (k : Nat) : Int := rn (((v 0).drop (4 * k)).take 4)
def vput (v : Int → List Int) (n : Int) (ds : List Int) : Int → List Int := fun m => if m = n then ds else v m
def vset (v : Int → List Int) (k : Nat) (x : Int) : Int → List Int := vput v 0 (spl (v 0) k x)
def vcn (v : Int → List Int) : Int → List Int := if vf v 6 = 0 then vset v 6 1 else v
theorem fld_vf (s : PgS) (k : Nat) : fld s k = vf (gpg s) k := rfl
theorem gpg_pwr (s : PgS) (n : Int) (ds : List Int) : gpg (pwr n ds s) = vput (gpg s) n ds := by
  funext m; unfold vput
  by_cases e : m = n
  · rw [if_pos e, e, gpg_eq]
  · rw [if_neg e, gpg_ne _ _ e]
theorem gpg_set (s : PgS) (k : Nat) (x : Int) : gpg (setf k x s) = vset (gpg s) k x := gpg_pwr _ _ _
theorem gpg_cnth (s : PgS) : gpg (cnth s) = vcn (gpg s) := by
  unfold cnth vcn; rw [fld_vf]
  split
  · exact gpg_set _ _ _
  · rfl
theorem spl_fld {ds : List Int} {k j : Nat} {x : Int} (h0 : 0 ≤ x) (h1 : x < 256 ^ 4) (hk : 4 * (k + 1) ≤ ds.length) :
    rn (((spl ds k x).drop (4 * j)).take 4) = if j = k then x else rn ((ds.drop (4 * j)).take 4) := by
  have l1 : (ds.take (4 * k)).length = 4 * k := by rw [List.length_take]; omega
  have l2 : (ds.take (4 * k) ++ wn 4 x).length = 4 * (k + 1) := by rw [List.length_append, l1, wn_len]; omega
  by_cases e : j = k
  · subst e
    rw [if_pos rfl]
    unfold spl
    rw [List.append_assoc, List.drop_left' l1, List.take_left' (wn_len 4 x), rn_wn 4 x h0 h1]
  · rw [if_neg e]
    congr 1
    unfold spl
    by_cases q : j < k
    · rw [List.append_assoc, List.drop_append_of_le_length (by omega), List.take_append_of_le_length (by rw [List.length_drop]; omega), List.drop_take, List.take_take, show min 4 (4 * k - 4 * j) = 4 by omega]
    · rw [List.drop_append, List.drop_eq_nil_of_le (by omega), List.nil_append, l2, List.drop_drop, show 4 * (k + 1) + (4 * j - 4 * (k + 1)) = 4 * j by omega]
theorem vset_vf {v : Int → List Int} {k j : Nat} {x : Int} (h0 : 0 ≤ x) (h1 : x < 256 ^ 4) (hk : 4 * (k + 1) ≤ (v 0).length) : vf (vset v k x) j = if j = k then x else vf v j := by
  unfold vf vset vput
  rw [if_pos rfl]
  exact spl_fld h0 h1 hk
theorem vset_ne (v : Int → List Int) (k : Nat) (x : Int) {n : Int} (h : n ≠ 0) : vset v k x n = v n := if_neg h
theorem vput_vf (v : Int → List Int) {n : Int} (ds : List Int) (h : n ≠ 0) (k : Nat) : vf (vput v n ds) k = vf v k := by
  unfold vf vput; rw [if_neg (Ne.symm h)]
theorem vput_ne (v : Int → List Int) {n m : Int} (ds : List Int) (h : m ≠ n) : vput v n ds m = v m := if_neg h
theorem vput_eq (v : Int → List Int) (n : Int) (ds : List Int) : vput v n ds n = ds := if_pos rfl
/-- the law's model -/
structure LM where
  pgs : List (Int × List Int)
  many : Int
  free : List Int
  taken : List Int
def Chain (f : Int → Int) : Int → List Int → Prop
  | h, [] => h = 0
  | h, n :: r => h = n ∧ Chain f (f n) r
theorem Chain.mono {f g : Int → Int} : ∀ {l : List Int} {h : Int}, (∀ n ∈ l, f n = g n) → Chain f h l → Chain g h l
  | [], _, _, c => c
  | n :: r, _, e, c => ⟨c.1, by rw [← e n (by simp)]; exact Chain.mono (fun m hm => e m (List.mem_cons_of_mem _ hm)) c.2⟩
theorem Chain.head {f : Int → Int} {h : Int} : ∀ {l : List Int}, Chain f h l → h = (l ++ [0]).headD 0
  | [], c => c
  | _ :: _, c => c.1
structure Rel (i : Nat) (v : Int → List Int) (M : LM) : Prop where
  z : ∀ n, (v n).length = 256
  many : vf v 6 = M.many
  chain : Chain (fun n => rn ((v n).take 4)) (vf v 7) M.free
  head : aget M.pgs 0 = some [vf v 3]
  tk : ∀ n ∈ M.taken, aget M.pgs n = some (v n)
  nd : (M.free ++ M.taken).Nodup
  rg : ∀ n ∈ M.free ++ M.taken, 1 ≤ n ∧ n < M.many
  m1 : 1 ≤ M.many
  mb : M.many ≤ 1 + i
  pl : M.pgs.length ≤ 1 + 2 * i
  fl : M.free.length + M.taken.length ≤ i
theorem Rel.up {i : Nat} {v : Int → List Int} {M : LM} (h : Rel i v M) : Rel (i + 1) v M :=
  ⟨h.z, h.many, h.chain, h.head, h.tk, h.nd, h.rg, h.m1, by have := h.mb; omega, by have := h.pl; omega, by have := h.fl; omega⟩
theorem Rel.ne0 {i : Nat} {v : Int → List Int} {M : LM} (h : Rel i v M) {n : Int} (hn : n ∈ M.free ++ M.taken) : n ≠ 0 := by have := (h.rg n hn).1; omega
/-- field 3 is set -/
theorem Rel.three {i : Nat} {v : Int → List Int} {M : LM} {x : Int} (h : Rel i v M) (h0 : 0 ≤ x) (h1 : x < 256 ^ 4) : Rel (i + 1) (vset v 3 x) { M with pgs := aput M.pgs 0 [x] } := by
  have hz : 4 * (3 + 1) ≤ (v 0).length := by rw [h.z]; decide
  have f : ∀ j, vf (vset v 3 x) j = if j = 3 then x else vf v j := fun j => vset_vf h0 h1 hz
  refine ⟨fun n => ?_, ?_, ?_, ?_, fun n hn => ?_, h.nd, h.rg, h.m1, h.up.mb, ?_, h.up.fl⟩
  · by_cases e : n = 0
    · subst e; unfold vset; rw [vput_eq, spl_len hz]; exact h.z 0
    · rw [vset_ne _ _ _ e]; exact h.z n
  · rw [f]; exact h.many
  · rw [f]
    exact h.chain.mono fun n hn => by
      show rn ((v n).take 4) = rn ((vset v 3 x n).take 4)
      rw [vset_ne _ _ _ (h.ne0 (List.mem_append.mpr (.inl hn)))]
  · rw [f]; exact aget_put_eq _ _ _
  · rw [aget_put_ne _ _ (h.ne0 (List.mem_append.mpr (.inr hn))), vset_ne _ _ _ (h.ne0 (List.mem_append.mpr (.inr hn)))]
    exact h.tk n hn
  · have := aput_len M.pgs 0 [x]; have := h.pl; show (aput M.pgs 0 [x]).length ≤ _; omega
/-- a taken page is written -/
theorem Rel.write {i : Nat} {v : Int → List Int} {M : LM} {n : Int} {ds : List Int} (h : Rel i v M) (hn : n ∈ M.taken) (hl : ds.length = 256) : Rel (i + 1) (vput v n ds) { M with pgs := aput M.pgs n ds } := by
  have n0 := h.ne0 (List.mem_append.mpr (.inr hn))
  have dis : ∀ m ∈ M.free, m ≠ n := fun m hm e => by
    subst e
    exact (List.nodup_append.mp h.nd).2.2 m hm m hn rfl
  refine ⟨fun m => ?_, ?_, ?_, ?_, fun m hm => ?_, h.nd, h.rg, h.m1, h.up.mb, ?_, h.up.fl⟩
  · unfold vput; split
    · exact hl
    · exact h.z m
  · rw [vput_vf _ _ n0]; exact h.many
  · rw [vput_vf _ _ n0]
    exact h.chain.mono fun m hm => by
      show rn ((v m).take 4) = rn ((vput v n ds m).take 4)
      rw [vput_ne _ _ (dis m hm)]
  · rw [vput_vf _ _ n0, aget_put_ne _ _ n0.symm]; exact h.head
  · by_cases e : m = n
    · subst e; rw [aget_put_eq, vput_eq]
    · rw [aget_put_ne _ _ e, vput_ne _ _ e]; exact h.tk m hm
  · have := aput_len M.pgs n ds; have := h.pl; show (aput M.pgs n ds).length ≤ _; omega
theorem zeros_len : zeros.length = 256 := by unfold zeros; rw [List.length_replicate]
/-- a new page -/
theorem Rel.grow {i : Nat} {v : Int → List Int} {M : LM} (h : Rel i v M) (hf : M.free = []) (hi : i ≤ 1000) : Rel (i + 1) (vput (vset v 6 (vf v 6 + 1)) (vf v 6) zeros) { pgs := aput M.pgs M.many zeros, many := M.many + 1, free := [], taken := M.taken ++ [M.many] } := by
  have hz : 4 * (6 + 1) ≤ (v 0).length := by rw [h.z]; decide
  have m1 := h.m1; have mb := h.mb
  rw [h.many]
  have n0 : M.many ≠ 0 := by omega
  have f : ∀ j, vf (vput (vset v 6 (M.many + 1)) M.many zeros) j = if j = 6 then M.many + 1 else vf v j := fun j => by
    rw [vput_vf _ _ n0]; exact vset_vf (by omega) (by omega) hz
  have nd := h.nd
  rw [hf, List.nil_append] at nd
  have rg := h.rg
  rw [hf, List.nil_append] at rg
  refine ⟨fun n => ?_, ?_, ?_, ?_, fun n hn => ?_, ?_, fun n hn => ?_, by show (1 : Int) ≤ M.many + 1; omega, by show M.many + 1 ≤ 1 + ((i + 1 : Nat) : Int); omega, ?_, ?_⟩
  · unfold vput; split
    · exact zeros_len
    · unfold vset vput; split
      · rw [spl_len hz]; exact h.z 0
      · exact h.z n
  · rw [f, if_pos rfl]
  · rw [f]
    have := h.chain
    rw [hf] at this
    exact this
  · rw [f]; show aget (aput M.pgs M.many zeros) 0 = _; rw [aget_put_ne _ _ n0.symm]; exact h.head
  · show aget (aput M.pgs M.many zeros) n = _
    rcases List.mem_append.mp hn with hn | hn
    · have := rg n hn
      rw [aget_put_ne _ _ (by omega), vput_ne _ _ (by omega), vset_ne _ _ _ (by omega)]; exact h.tk n hn
    · rw [List.mem_singleton.mp hn, aget_put_eq, vput_eq]
  · show (([] : List Int) ++ (M.taken ++ [M.many])).Nodup
    rw [List.nil_append, List.nodup_append]
    refine ⟨nd, by simp, fun a ha b hb => ?_⟩
    rw [List.mem_singleton.mp hb]
    have := rg a ha
    omega
  · have hn : n ∈ M.taken ++ [M.many] := hn
    show 1 ≤ n ∧ n < M.many + 1
    rcases List.mem_append.mp hn with hn | hn
    · have := rg n hn; omega
    · rw [List.mem_singleton.mp hn]; omega
  · have := aput_len M.pgs M.many zeros; have := h.pl; show (aput M.pgs M.many zeros).length ≤ _; omega
  · have := h.fl; rw [hf] at this
    show 0 + (M.taken ++ [M.many]).length ≤ i + 1
    rw [List.length_append]; simp only [List.length_nil, List.length_singleton] at *; omega
/-- the first free page -/
theorem Rel.reuse {i : Nat} {v : Int → List Int} {M : LM} {n : Int} {r : List Int} (h : Rel i v M) (hf : M.free = n :: r) (hi : i ≤ 1000) :
    vf v 7 = n ∧ n ≠ 0 ∧ Rel (i + 1) (vput (vset v 7 (rn ((v n).take 4))) n zeros) { pgs := aput M.pgs n zeros, many := M.many, free := r, taken := M.taken ++ [n] } := by
  have hz : 4 * (7 + 1) ≤ (v 0).length := by rw [h.z]; decide
  have m1 := h.m1; have mb := h.mb
  have c := h.chain
  rw [hf] at c
  have nd := h.nd
  rw [hf] at nd
  have rg := h.rg
  rw [hf] at rg
  have n0 : n ≠ 0 := by have := (rg n (by simp)).1; omega
  have hx := c.2.head
  have xb : 0 ≤ rn ((v n).take 4) ∧ rn ((v n).take 4) < 256 ^ 4 := by
    show 0 ≤ (fun n => rn ((v n).take 4)) n ∧ (fun n => rn ((v n).take 4)) n < 256 ^ 4
    rw [hx]
    cases r with
    | nil => exact ⟨by decide, by decide⟩
    | cons y r => have := rg y (by simp); show 0 ≤ y ∧ y < 256 ^ 4; omega
  have f : ∀ j, vf (vput (vset v 7 (rn ((v n).take 4))) n zeros) j = if j = 7 then rn ((v n).take 4) else vf v j := fun j => by
    rw [vput_vf _ _ n0]; exact vset_vf xb.1 xb.2 hz
  have dis : ∀ m ∈ r, m ≠ n := fun m hm e => by
    subst e
    rw [List.cons_append, List.nodup_cons] at nd
    exact nd.1 (List.mem_append.mpr (.inl hm))
  have dis2 : ∀ m ∈ M.taken, m ≠ n := fun m hm e => by
    subst e
    rw [List.cons_append, List.nodup_cons] at nd
    exact nd.1 (List.mem_append.mpr (.inr hm))
  refine ⟨c.1, n0, fun m => ?_, ?_, ?_, ?_, fun m hm => ?_, ?_, fun m hm => ?_, m1, h.up.mb, ?_, ?_⟩
  · unfold vput; split
    · exact zeros_len
    · unfold vset vput; split
      · rw [spl_len hz]; exact h.z 0
      · exact h.z m
  · rw [f]; exact h.many
  · rw [f, if_pos rfl]
    exact c.2.mono fun m hm => by
      have m0 := (rg m (by simp [hm])).1
      show rn ((v m).take 4) = rn ((vput (vset v 7 (rn ((v n).take 4))) n zeros m).take 4)
      rw [vput_ne _ _ (dis m hm), vset_ne _ _ _ (by omega)]
  · rw [f]; show aget (aput M.pgs n zeros) 0 = _; rw [aget_put_ne _ _ n0.symm]; exact h.head
  · show aget (aput M.pgs n zeros) m = _
    rcases List.mem_append.mp hm with hm | hm
    · have m0 := (rg m (by simp [hm])).1
      rw [aget_put_ne _ _ (dis2 m hm), vput_ne _ _ (dis2 m hm), vset_ne _ _ _ (by omega)]; exact h.tk m hm
    · rw [List.mem_singleton.mp hm, aget_put_eq, vput_eq]
  · show (r ++ (M.taken ++ [n])).Nodup
    have p : (r ++ (M.taken ++ [n])).Perm (n :: r ++ M.taken) := by
      rw [← List.append_assoc]; exact List.perm_append_singleton n (r ++ M.taken)
    exact p.nodup_iff.mpr nd
  · have hm : m ∈ r ++ (M.taken ++ [n]) := hm
    refine rg m ?_
    simp only [List.mem_append, List.mem_cons, List.mem_singleton, List.not_mem_nil, or_false] at hm ⊢
    rcases hm with q | q | q
    · exact .inl (.inr q)
    · exact .inr q
    · exact .inl (.inl q)
  · have := aput_len M.pgs n zeros; have := h.pl; show (aput M.pgs n zeros).length ≤ _; omega
  · have q : (n :: r).length + M.taken.length ≤ i := by rw [← hf]; exact h.fl
    rw [List.length_cons] at q
    show r.length + (M.taken ++ [n]).length ≤ i + 1
    rw [List.length_append, List.length_singleton]; omega
theorem erase_perm : ∀ {l : List Int} {j : Nat} {n : Int}, l[j]? = some n → (n :: l.eraseIdx j).Perm l
  | x :: l, 0, n, h => by
    simp only [List.getElem?_cons_zero, Option.some.injEq] at h
    subst h
    exact List.Perm.refl _
  | x :: l, j + 1, n, h => by
    rw [List.getElem?_cons_succ] at h
    exact (List.Perm.swap x n _).trans ((erase_perm h).cons x)
  | [], _, _, h => by simp at h
/-- a taken page is released -/
theorem Rel.rel {i : Nat} {v : Int → List Int} {M : LM} {n : Int} {j : Nat} (h : Rel i v M) (hn : M.taken[j]? = some n) (hi : i ≤ 1000) :
    Rel (i + 1) (vset (vput v n (wn 4 (vf v 7) ++ List.replicate 252 0)) 7 n) { M with free := n :: M.free, taken := M.taken.eraseIdx j } := by
  have m1 := h.m1; have mb := h.mb
  have hm := List.mem_of_getElem? hn
  have rn' := h.rg n (List.mem_append.mpr (.inr hm))
  have n0 : n ≠ 0 := by omega
  have lw : (wn 4 (vf v 7) ++ List.replicate 252 (0 : Int)).length = 256 := by rw [List.length_append, wn_len, List.length_replicate]
  have v0 : vput v n (wn 4 (vf v 7) ++ List.replicate 252 0) 0 = v 0 := vput_ne _ _ n0.symm
  have hz : 4 * (7 + 1) ≤ (vput v n (wn 4 (vf v 7) ++ List.replicate 252 0) 0).length := by rw [v0, h.z]; decide
  have f : ∀ j, vf (vset (vput v n (wn 4 (vf v 7) ++ List.replicate 252 0)) 7 n) j = if j = 7 then n else vf v j := fun j => by
    rw [vset_vf (by omega) (by omega) hz, vput_vf _ _ n0]
  have x7 : 0 ≤ vf v 7 ∧ vf v 7 < 256 ^ 4 := by
    have c := h.chain.head
    rw [c]
    cases e : M.free with
    | nil => exact ⟨by decide, by decide⟩
    | cons y r => have := h.rg y (by rw [e]; simp); show 0 ≤ y ∧ y < 256 ^ 4; omega
  have hj : j < M.taken.length := (List.getElem?_eq_some_iff.mp hn).1
  have hg : M.taken[j] = n := (List.getElem?_eq_some_iff.mp hn).2
  have pt : (n :: M.taken.eraseIdx j).Perm M.taken := erase_perm hn
  have p : (n :: M.free ++ M.taken.eraseIdx j).Perm (M.free ++ M.taken) := (List.perm_middle.symm).trans (List.Perm.append_left _ pt)
  have nd' : (n :: M.free ++ M.taken.eraseIdx j).Nodup := p.nodup_iff.mpr h.nd
  have ni : n ∉ M.free ++ M.taken.eraseIdx j := by rw [List.cons_append, List.nodup_cons] at nd'; exact nd'.1
  refine ⟨fun m => ?_, ?_, ?_, ?_, fun m hm' => ?_, nd', fun m hm' => h.rg m (p.mem_iff.mp hm'), m1, h.up.mb, h.up.pl, ?_⟩
  · unfold vset
    by_cases e : m = 0
    · subst e; rw [vput_eq, spl_len hz, v0]; exact h.z 0
    · rw [vput_ne _ _ e]; unfold vput; split
      · exact lw
      · exact h.z m
  · rw [f]; exact h.many
  · rw [f, if_pos rfl]
    refine ⟨rfl, ?_⟩
    have e : rn ((vset (vput v n (wn 4 (vf v 7) ++ List.replicate 252 0)) 7 n n).take 4) = vf v 7 := by
      rw [vset_ne _ _ _ n0, vput_eq, List.take_left' (wn_len 4 _)]
      exact rn_wn 4 _ x7.1 x7.2
    show Chain _ (rn ((vset (vput v n (wn 4 (vf v 7) ++ List.replicate 252 0)) 7 n n).take 4)) M.free
    rw [e]
    exact h.chain.mono fun m hm' => by
      have m0 := (h.rg m (List.mem_append.mpr (.inl hm'))).1
      have mn : m ≠ n := fun z => ni (by rw [← z]; exact List.mem_append.mpr (.inl hm'))
      show rn ((v m).take 4) = rn ((vset (vput v n (wn 4 (vf v 7) ++ List.replicate 252 0)) 7 n m).take 4)
      rw [vset_ne _ _ _ (by omega), vput_ne _ _ mn]
  · rw [f]; exact h.head
  · have hm2 : m ∈ M.taken := List.mem_of_mem_eraseIdx hm'
    have m0 := (h.rg m (List.mem_append.mpr (.inr hm2))).1
    have mn : m ≠ n := fun z => ni (by rw [← z]; exact List.mem_append.mpr (.inr hm'))
    rw [vset_ne _ _ _ (by omega), vput_ne _ _ mn]
    exact h.tk m hm2
  · have := h.fl
    show (n :: M.free).length + (M.taken.eraseIdx j).length ≤ i + 1
    rw [List.length_eraseIdx_of_lt hj, List.length_cons]; omega
/-! ### a pager whose device has power without end -/
def Zc (l : List (Int × List Int)) : Prop := ∀ q ∈ l, q.2.length = 256
theorem aput_zc {l : List (Int × List Int)} {n : Int} {ds : List Int} (h : Zc l) (hd : ds.length = 256) : Zc (aput l n ds) := by
  intro q hq
  unfold aput at hq
  split at hq
  · obtain ⟨r, hr, rfl⟩ := List.mem_map.mp hq
    split
    · exact hd
    · exact h r hr
  · rcases List.mem_append.mp hq with hq | hq
    · exact h q hq
    · rw [List.mem_singleton.mp hq]; exact hd
theorem aget_mem' {l : List (Int × List Int)} {n : Int} {d : List Int} (h : aget l n = some d) : (n, d) ∈ l := by
  unfold aget at h
  cases z : l.find? fun q => decide (q.1 = n) with
  | none => rw [z] at h; cases h
  | some r =>
    rw [z] at h
    have h2 := List.find?_some z
    simp only [decide_eq_true_eq] at h2
    cases h
    rw [← h2]; exact List.mem_of_find?_eq_some z
theorem aput_mem {l : List (Int × List Int)} {n : Int} {ds : List Int} {q : Int × List Int} (h : q ∈ aput l n ds) : q ∈ l ∨ q = (n, ds) := by
  unfold aput at h
  split at h
  · obtain ⟨r, hr, rfl⟩ := List.mem_map.mp h
    split
    · rename_i e; exact .inr (by rw [e])
    · exact .inl hr
  · rcases List.mem_append.mp h with h | h
    · exact .inl h
    · exact .inr (List.mem_singleton.mp h)
/-- many puts by keys -/
def kput (f : Int → List Int) (ks : List Int) (m : List (Int × List Int)) : List (Int × List Int) := ks.foldl (fun a k => aput a k (f k)) m
theorem aget_kput (f : Int → List Int) : ∀ (ks : List Int) (m : List (Int × List Int)) (n : Int), aget (kput f ks m) n = if n ∈ ks then some (f n) else aget m n
  | [], m, n => by simp [kput]
  | k :: ks, m, n => by
    show aget (kput f ks (aput m k (f k))) n = _
    rw [aget_kput f ks]
    by_cases h : n ∈ ks
    · rw [if_pos h, if_pos (List.mem_cons_of_mem _ h)]
    · rw [if_neg h]
      by_cases e : n = k
      · subst e; rw [aget_put_eq, if_pos (by simp)]
      · rw [aget_put_ne _ _ e, if_neg (by simp [e, h])]
theorem kput_len (f : Int → List Int) : ∀ (ks : List Int) (m : List (Int × List Int)), (kput f ks m).length ≤ m.length + ks.length
  | [], _ => Nat.le_refl _
  | k :: ks, m => by
    have h1 := kput_len f ks (aput m k (f k))
    have h2 := aput_len m k (f k)
    show (kput f ks (aput m k (f k))).length ≤ m.length + (ks.length + 1)
    omega
theorem kput_zc {f : Int → List Int} : ∀ {ks : List Int} {m : List (Int × List Int)}, Zc m → (∀ k ∈ ks, (f k).length = 256) → Zc (kput f ks m)
  | [], _, h, _ => h
  | k :: ks, m, h, g => kput_zc (ks := ks) (aput_zc h (g k (by simp))) fun x hx => g x (List.mem_cons_of_mem _ hx)
def fv (l : List (Int × List Int)) (n : Int) : List Int := (aget l n).getD []
theorem coms_k (l m : List (Int × List Int)) : coms l m = kput (fv l) (l.map (·.1)) m := by unfold coms kput fv; rw [List.foldl_map]
theorem puts_k (l m : List (Int × List Int)) : puts m (grp l) = kput (fv l) (skeys l) m := by unfold puts grp kput fv; rw [List.foldl_map]
theorem fv_z {l : List (Int × List Int)} (h : Zc l) {n : Int} (hn : n ∈ l.map (·.1)) : (fv l n).length = 256 := by
  obtain ⟨d, e, m⟩ := mem_skeys ((skeys_perm l).mem_iff.mpr hn)
  unfold fv; rw [e]; exact h _ m
theorem key_iff (l : List (Int × List Int)) (n : Int) : n ∈ l.map (·.1) ↔ aget l n ≠ none := by
  constructor
  · intro h z
    obtain ⟨d, e, _⟩ := mem_skeys ((skeys_perm l).mem_iff.mpr h)
    rw [z] at e; cases e
  · intro h
    cases e : aget l n with
    | none => exact absurd e h
    | some d => exact List.mem_map.mpr ⟨(n, d), aget_mem' e, rfl⟩
def orD (a b : Option (List Int)) : Option (List Int) := match a with
  | some d => some d
  | none => b
theorem aget_kf {l m : List (Int × List Int)} {ks : List Int} (h : ks.Perm (l.map (·.1))) (n : Int) : aget (kput (fv l) ks m) n = orD (aget l n) (aget m n) := by
  rw [aget_kput]
  by_cases e : n ∈ ks
  · rw [if_pos e]
    have := (key_iff l n).mp (h.mem_iff.mp e)
    cases z : aget l n with
    | none => exact absurd z this
    | some d => unfold fv; rw [z]; rfl
  · rw [if_neg e]
    cases z : aget l n with
    | none => rfl
    | some d => exact absurd (h.mem_iff.mpr ((key_iff l n).mpr (by rw [z]; exact fun y => by cases y))) e
theorem aget_coms (l m : List (Int × List Int)) (n : Int) : aget (coms l m) n = orD (aget l n) (aget m n) := by rw [coms_k]; exact aget_kf (List.Perm.refl _) n
theorem aget_pgrp (l m : List (Int × List Int)) (n : Int) : aget (puts m (grp l)) n = orD (aget l n) (aget m n) := by rw [puts_k]; exact aget_kf (skeys_perm l) n
theorem can_none {d : DevS} (h : d.most = none) : can d = true := by unfold can; rw [h]
theorem dApp_ok : ∀ (bs : List Int) (d : DevS), d.most = none → dApp bs d = ({ d with done := d.done + bs.length, steps := d.steps ++ bs.map some }, true)
  | [], d, h => by
    show (d, true) = _
    simp
  | b :: bs, d, h => by
    have e : dByte (some b) d = ({ d with done := d.done + 1, steps := d.steps ++ [some b] }, true) := by unfold dByte pw; rw [if_pos (can_none h)]
    show (if (dByte (some b) d).2 = true then dApp bs (dByte (some b) d).1 else (d, false)) = _
    rw [e, if_pos rfl, dApp_ok bs { d with done := d.done + 1, steps := d.steps ++ [some b] } h]
    simp only [Prod.mk.injEq, DevS.mk.injEq, true_and, and_true, List.map_cons, List.append_assoc, List.singleton_append, List.length_cons]
    omega
theorem fold_some (bs l : List Int) : (bs.map some).foldl lstep l = l ++ bs := by
  induction bs generalizing l with
  | nil => simp
  | cons b bs ih => rw [List.map_cons, List.foldl_cons, ih]; unfold lstep; simp
theorem dSyncL_ok {d : DevS} (h : d.most = none) : dSyncL d = ({ d with done := d.done + 1, log := clog d, steps := [] }, true) := by
  unfold dSyncL pw; rw [if_pos (can_none h)]; rfl
theorem dSyncP_ok {d : DevS} (h : d.most = none) : dSyncP d = ({ d with done := d.done + 1, pages := puts d.pages d.writes, writes := [] }, true) := by
  unfold dSyncP pw; rw [if_pos (can_none h)]; rfl
theorem dByte_ok {d : DevS} {b : Option Int} (h : d.most = none) : dByte b d = ({ d with done := d.done + 1, steps := d.steps ++ [b] }, true) := by
  unfold dByte pw; rw [if_pos (can_none h)]
theorem pwrites_ok : ∀ (ws : List (Int × List Int)) (d : DevS), d.most = none → pwrites ws d = ({ d with done := d.done + ws.length, writes := d.writes ++ ws }, true)
  | [], d, h => by
    show (d, true) = _
    simp
  | q :: ws, d, h => by
    have e : dWrite q.1 q.2 d = ({ d with done := d.done + 1, writes := d.writes ++ [(q.1, q.2)] }, true) := by unfold dWrite pw; rw [if_pos (can_none h)]
    show (if (dWrite q.1 q.2 d).2 = true then pwrites ws (dWrite q.1 q.2 d).1 else (d, false)) = _
    rw [e, if_pos rfl, pwrites_ok ws { d with done := d.done + 1, writes := d.writes ++ [(q.1, q.2)] } h]
    simp only [Prod.mk.injEq, DevS.mk.injEq, true_and, and_true, List.append_assoc, List.singleton_append, List.length_cons]
    omega
/-- a pager between calls: k bounds the pages since the last checkpoint, i the calls, gs the log's groups -/
structure PSt (k i : Nat) (s : PgS) (gs : List (List (Int × List Int))) : Prop where
  mo : s.dev.most = none
  w : s.dev.writes = []
  st : s.dev.steps = []
  lg : s.dev.log = gs.flatMap wg
  gd : ∀ g ∈ gs, Good g
  cv : ∀ n, aget s.com n = aget (gs.foldl puts []) n
  cz : Zc s.com
  pz : Zc s.dev.pages
  dz : ∀ q ∈ s.dir, q.2.length = 256 ∧ 0 ≤ q.1 ∧ q.1 < 256 ^ 4
  n1 : (gs.map List.length).sum + s.dir.length ≤ k
  n2 : s.com.length ≤ (gs.map List.length).sum
  n3 : s.dev.pages.length ≤ 64 * i
  n4 : gs.length ≤ i
theorem PSt.le {k k' i i' : Nat} {s : PgS} {gs : List (List (Int × List Int))} (h : PSt k i s gs) (hk : k ≤ k') (hi : i ≤ i') : PSt k' i' s gs :=
  ⟨h.mo, h.w, h.st, h.lg, h.gd, h.cv, h.cz, h.pz, h.dz, by have := h.n1; omega, h.n2, by have := h.n3; omega, by have := h.n4; omega⟩
theorem log_len : ∀ {gs : List (List (Int × List Int))}, (∀ g ∈ gs, Good g) → (gs.flatMap wg).length ≤ 15604 * gs.length
  | [], _ => Nat.le_refl _
  | g :: gs, h => by
    have h1 := log_len (gs := gs) fun x hx => h x (List.mem_cons_of_mem _ hx)
    have h2 := h g (by simp)
    have h3 := h2.n
    rw [List.flatMap_cons, List.length_append, wg_len h2, List.length_cons]
    omega
theorem PSt.pgz {k i : Nat} {s : PgS} {gs : List (List (Int × List Int))} (h : PSt k i s gs) (hk : k ≤ 60) (hi : i ≤ 60) : PgZ s := by
  have l := log_len h.gd
  have := h.n1; have := h.n2; have := h.n3; have := h.n4
  exact ⟨by rw [h.w]; exact Nat.zero_le _, by rw [h.w]; show _ + 0 ≤ _; omega, by rw [h.lg, h.st]; show _ + 0 ≤ _; omega, fun q hq => Nat.le_of_eq (h.pz q hq), by rw [h.w]; exact fun q hq => (by cases hq), by omega, by omega, h.cz, h.dz⟩
theorem PSt.z {k i : Nat} {s : PgS} {gs : List (List (Int × List Int))} (h : PSt k i s gs) (n : Int) : (gpg s n).length = 256 := by
  unfold gpg
  cases e1 : aget s.dir n with
  | some d => exact (h.dz _ (aget_mem' e1)).1
  | none =>
    cases e2 : aget s.com n with
    | some d => exact h.cz _ (aget_mem' e2)
    | none =>
      show (cpg s.dev n).length = 256
      unfold cpg; rw [h.w]
      show (dpg s.dev n).length = 256
      unfold dpg
      cases e3 : aget s.dev.pages n with
      | some d => exact h.pz _ (aget_mem' e3)
      | none => exact zeros_len
/-- what stands without the dirty ones -/
def bv (s : PgS) : Int → List Int := gpg { s with dir := [] }
theorem PSt.nod {k i : Nat} {s : PgS} {gs : List (List (Int × List Int))} (h : PSt k i s gs) : PSt k i { s with dir := [] } gs :=
  ⟨h.mo, h.w, h.st, h.lg, h.gd, h.cv, h.cz, h.pz, fun q hq => (by cases hq), by have := h.n1; show _ + 0 ≤ k; omega, h.n2, h.n3, h.n4⟩
theorem PSt.put {k i : Nat} {s : PgS} {gs : List (List (Int × List Int))} {n : Int} {ds : List Int} (h : PSt k i s gs) (hn : 0 ≤ n ∧ n < 256 ^ 4) (hl : ds.length = 256) : PSt (k + 1) i (pwr n ds s) gs := by
  refine ⟨h.mo, h.w, h.st, h.lg, h.gd, h.cv, h.cz, h.pz, fun q hq => ?_, ?_, h.n2, h.n3, h.n4⟩
  · rcases aput_mem (show q ∈ aput s.dir n ds from hq) with hq | hq
    · exact h.dz q hq
    · rw [hq]; exact ⟨hl, hn⟩
  · have := pwr_len s n ds; have := h.n1; omega
theorem PSt.set {k i : Nat} {s : PgS} {gs : List (List (Int × List Int))} {f : Nat} {x : Int} (h : PSt k i s gs) (hf : f ≤ 7) : PSt (k + 1) i (setf f x s) gs :=
  h.put ⟨by decide, by decide⟩ (by rw [spl_len (by rw [h.z]; omega)]; exact h.z 0)
theorem PSt.cn {k i : Nat} {s : PgS} {gs : List (List (Int × List Int))} (h : PSt k i s gs) : PSt (k + 1) i (cnth s) gs := by
  unfold cnth; split
  · exact h.set (by decide)
  · exact h.le (by omega) (Nat.le_refl _)
theorem gpg_dir {s t : PgS} (h1 : s.dev = t.dev) (h2 : s.com = t.com) : bv s = bv t := by unfold bv; rw [h1, h2]
theorem bv_at {k i : Nat} {s : PgS} {gs : List (List (Int × List Int))} (h : PSt k i s gs) (n : Int) : bv s n = (orD (aget s.com n) (aget s.dev.pages n)).getD zeros := by
  unfold bv gpg
  show (match aget s.com n with | some d => d | none => cpg s.dev n) = _
  cases e : aget s.com n with
  | some d => rfl
  | none =>
    show cpg s.dev n = _
    unfold cpg; rw [h.w]; rfl
theorem gpg_at {k i : Nat} {s : PgS} {gs : List (List (Int × List Int))} (h : PSt k i s gs) (n : Int) : gpg s n = (orD (aget s.dir n) (orD (aget s.com n) (aget s.dev.pages n))).getD zeros := by
  have b := bv_at h n
  unfold bv gpg at b
  unfold gpg
  cases e : aget s.dir n with
  | some d => rfl
  | none => exact b
theorem sum_snoc (l : List Nat) (x : Nat) : (l ++ [x]).sum = l.sum + x := by simp
theorem orD_none (b : Option (List Int)) : orD none b = b := rfl
theorem orD_as (a b e : Option (List Int)) : orD (orD a b) e = orD a (orD b e) := by cases a <;> rfl
theorem aget_nil (n : Int) : aget [] n = none := rfl
/-- a commit -/
theorem PSt.com' {k i : Nat} {s : PgS} {gs : List (List (Int × List Int))} (h : PSt k i s gs) (hk : k ≤ 60) (hi : i ≤ 60) : ∃ s' gs', pcommit s = (s', true) ∧ PSt k (i + 1) s' gs' ∧ s'.dir = [] ∧ gpg s' = gpg s ∧ (gs'.length = gs.length ∨ gs'.length = gs.length + 1) := by
  have n1 := h.n1; have n2 := h.n2; have n3 := h.n3; have n4 := h.n4
  by_cases e : s.dir.length = 0
  · exact ⟨s, gs, by unfold pcommit; rw [if_pos e], h.le (Nat.le_refl _) (by omega), List.eq_nil_of_length_eq_zero e, rfl, .inl rfl⟩
  · have c1 : (andD (dApp (wg (grp s.dir)) s.dev) dSyncL) = ({ s.dev with done := s.dev.done + (wg (grp s.dir)).length + 1, log := s.dev.log ++ wg (grp s.dir), steps := [] }, true) := by
      rw [dApp_ok _ _ h.mo, andD_yes rfl, dSyncL_ok (by exact h.mo)]
      unfold clog
      show (({ pages := s.dev.pages, writes := s.dev.writes, log := (s.dev.steps ++ (wg (grp s.dir)).map some).foldl lstep s.dev.log, steps := [], done := _, most := _ } : DevS), true) = _
      rw [h.st, List.nil_append, fold_some]
    have gd : Good (grp s.dir) := (h.pgz hk hi).good.resolve_right (by omega)
    have lgr : (grp s.dir).length = s.dir.length := by unfold grp; rw [List.length_map, skeys_len]
    have P' : PSt k (i + 1) { dev := { s.dev with done := s.dev.done + (wg (grp s.dir)).length + 1, log := s.dev.log ++ wg (grp s.dir), steps := [] }, com := coms s.dir s.com, dir := [] } (gs ++ [grp s.dir]) := by
      refine ⟨h.mo, h.w, rfl, ?_, fun g hg => ?_, fun n => ?_, ?_, h.pz, fun q hq => (by cases hq), ?_, ?_, ?_, ?_⟩
      · show s.dev.log ++ wg (grp s.dir) = _
        rw [h.lg, List.flatMap_append]; simp
      · rcases List.mem_append.mp hg with hg | hg
        · exact h.gd g hg
        · rw [List.mem_singleton.mp hg]; exact gd
      · show aget (coms s.dir s.com) n = _
        rw [aget_coms, List.foldl_append, List.foldl_cons, List.foldl_nil, aget_pgrp, h.cv]
      · show Zc (coms s.dir s.com)
        rw [coms_k]
        exact kput_zc h.cz fun n hn => fv_z (fun q hq => (h.dz q hq).1) hn
      · rw [List.map_append, List.map_cons, List.map_nil, sum_snoc, lgr]; show _ + 0 ≤ k; omega
      · show (coms s.dir s.com).length ≤ _
        rw [List.map_append, List.map_cons, List.map_nil, sum_snoc, lgr, coms_k]
        have := kput_len (fv s.dir) (s.dir.map (·.1)) s.com
        rw [List.length_map] at this
        omega
      · show s.dev.pages.length ≤ _; omega
      · rw [List.length_append, List.length_singleton]; omega
    refine ⟨_, gs ++ [grp s.dir], ?_, P', rfl, ?_, .inr (by simp)⟩
    · unfold pcommit; rw [if_neg e, c1]; rfl
    · funext n
      rw [gpg_at P', gpg_at h]
      show (orD (aget [] n) (orD (aget (coms s.dir s.com) n) (aget s.dev.pages n))).getD zeros = _
      rw [aget_nil, orD_none, aget_coms, orD_as]
theorem andD_mk (d : DevS) (f : DevS → DevS × Bool) : andD (d, true) f = f d := if_pos rfl
/-- a checkpoint -/
theorem PSt.ck {k i : Nat} {s : PgS} {gs : List (List (Int × List Int))} (h : PSt k i s gs) (hk : k ≤ 60) : ∃ s', pckpt s = (s', true) ∧ PSt k (i + 1) s' [] ∧ s'.dir = s.dir ∧ gpg s' = gpg s ∧ bv s' = bv s := by
  have n1 := h.n1; have n2 := h.n2; have n3 := h.n3; have n4 := h.n4
  obtain ⟨dn, c1⟩ : ∃ dn, andD (andD (andD (pwrites (grp s.com) s.dev) dSyncP) (dByte none)) dSyncL = ({ pages := puts s.dev.pages (grp s.com), writes := [], log := [], steps := [], done := dn, most := none }, true) := by
    rw [pwrites_ok _ _ h.mo, andD_mk, dSyncP_ok (by exact h.mo), andD_mk, dByte_ok (by exact h.mo), andD_mk, dSyncL_ok (by exact h.mo)]
    unfold clog
    refine ⟨s.dev.done + (grp s.com).length + 1 + 1 + 1, ?_⟩
    simp [h.w, h.st, h.mo, lstep]
  have lgr : (grp s.com).length = s.com.length := by unfold grp; rw [List.length_map, skeys_len]
  have P' : PSt k (i + 1) { dev := { pages := puts s.dev.pages (grp s.com), writes := [], log := [], steps := [], done := dn, most := none }, com := [], dir := s.dir } [] := by
    refine ⟨rfl, rfl, rfl, rfl, fun g hg => (by cases hg), fun n => rfl, fun q hq => (by cases hq), ?_, h.dz, ?_, Nat.zero_le _, ?_, Nat.zero_le _⟩
    · show Zc (puts s.dev.pages (grp s.com))
      rw [puts_k]
      exact kput_zc h.pz fun n hn => fv_z h.cz ((skeys_perm _).mem_iff.mp hn)
    · show 0 + s.dir.length ≤ k; omega
    · show (puts s.dev.pages (grp s.com)).length ≤ 64 * (i + 1)
      have := puts_len (grp s.com) s.dev.pages
      unfold puts; omega
  refine ⟨_, ?_, P', rfl, ?_, ?_⟩
  · unfold pckpt; rw [c1]; rfl
  · funext n
    rw [gpg_at P', gpg_at h]
    show (orD (aget s.dir n) (orD (aget [] n) (aget (puts s.dev.pages (grp s.com)) n))).getD zeros = _
    rw [aget_nil, orD_none, aget_pgrp]
  · funext n
    rw [bv_at P', bv_at h]
    show (orD (aget [] n) (aget (puts s.dev.pages (grp s.com)) n)).getD zeros = _
    rw [aget_nil, orD_none, aget_pgrp]
theorem puts_zc : ∀ {g m : List (Int × List Int)}, Zc m → Zc g → Zc (puts m g)
  | [], _, h, _ => h
  | q :: g, m, h, hw => puts_zc (g := g) (aput_zc h (hw q (by simp))) fun r hr => hw r (List.mem_cons_of_mem _ hr)
theorem gs_zc : ∀ {gs : List (List (Int × List Int))} {m : List (Int × List Int)}, Zc m → (∀ g ∈ gs, Good g) → Zc (gs.foldl puts m)
  | [], _, h, _ => h
  | g :: gs, m, h, hg => gs_zc (gs := gs) (puts_zc h fun q hq => ((hg g (by simp)).q q hq).2.2) fun x hx => hg x (List.mem_cons_of_mem _ hx)
theorem gs_len : ∀ (gs : List (List (Int × List Int))) (m : List (Int × List Int)), (gs.foldl puts m).length ≤ m.length + (gs.map List.length).sum
  | [], _ => Nat.le_refl _
  | g :: gs, m => by
    have h1 := gs_len gs (puts m g)
    have h2 := puts_len g m
    unfold puts at h1 h2
    rw [List.foldl_cons, List.map_cons, List.sum_cons]
    unfold puts
    omega
/-- a crash, and the pager anew -/
theorem PSt.init {k i : Nat} {s : PgS} {gs : List (List (Int × List Int))} (h : PSt k i s gs) (hk : k ≤ 60) (hi : i ≤ 60) : clog (dCrash [] 0 s.dev) = gs.flatMap wg ∧ CkZ (pini0 gs (dCrash [] 0 s.dev)) ∧ ∃ s1, pini1 gs (dCrash [] 0 s.dev) = (s1, true) ∧ PSt k (i + 1) s1 [] ∧ s1.dir = [] ∧ gpg s1 = bv s := by
  have n1 := h.n1; have n2 := h.n2; have n3 := h.n3; have n4 := h.n4
  have dl : (dCrash [] 0 s.dev).log = gs.flatMap wg := h.lg
  have P0 : PSt k i (pini0 gs (dCrash [] 0 s.dev)) gs := by
    refine ⟨rfl, rfl, rfl, dl, h.gd, fun n => rfl, gs_zc (fun q hq => (by cases hq)) h.gd, ?_, fun q hq => (by cases hq), by show _ + 0 ≤ k; omega, ?_, ?_, n4⟩
    · show Zc ((s.dev.writes.zip []).foldl dFate s.dev.pages)
      rw [List.zip_nil_right]; exact h.pz
    · have := gs_len gs []
      show (gs.foldl puts []).length ≤ _
      simpa using this
    · show ((s.dev.writes.zip ([] : List Int)).foldl dFate s.dev.pages).length ≤ _
      rw [List.zip_nil_right]; exact n3
  have b0 : gpg (pini0 gs (dCrash [] 0 s.dev)) = bv s := by
    funext n
    rw [gpg_at P0, bv_at h]
    show (orD (aget [] n) (orD (aget (gs.foldl puts []) n) (aget ((s.dev.writes.zip []).foldl dFate s.dev.pages) n))).getD zeros = _
    rw [aget_nil, orD_none, List.zip_nil_right, h.cv]; rfl
  have cl : clog (dCrash [] 0 s.dev) = gs.flatMap wg := dl
  refine ⟨cl, (P0.pgz hk hi).ck, ?_⟩
  by_cases e : 0 < (clog (dCrash [] 0 s.dev)).length
  · obtain ⟨s', e1, P', d', g', b'⟩ := P0.ck hk
    exact ⟨s', by unfold pini1; rw [if_pos e, e1], P', d', g'.trans b0⟩
  · have eg : gs = [] := by
      cases hg : gs with
      | nil => rfl
      | cons g gs' =>
        exfalso
        apply e
        rw [cl, hg, List.flatMap_cons, List.length_append, wg_len (h.gd g (by rw [hg]; simp))]; omega
    refine ⟨pini0 gs (dCrash [] 0 s.dev), by unfold pini1; rw [if_neg e], ?_, rfl, b0⟩
    have := P0.le (Nat.le_refl k) (Nat.le_succ i)
    rw [eg] at this ⊢
    exact this
/-! ### lists of pairs without a key twice -/
def nkeys (l : List (Int × List Int)) : Prop := (l.map (·.1)).Nodup
theorem aput_nk {l : List (Int × List Int)} {n : Int} {v : List Int} (h : nkeys l) : nkeys (aput l n v) := by
  unfold nkeys aput at *
  split
  · rw [List.map_map, show ((fun q : Int × List Int => q.1) ∘ fun q => if q.1 = n then (q.1, v) else q) = fun q => q.1 by funext q; show (if q.1 = n then (q.1, v) else q).1 = q.1; split <;> rfl]
    exact h
  · rename_i e
    rw [List.map_append, List.nodup_append]
    refine ⟨h, by simp, fun a ha b hb => ?_⟩
    have hb' : b = n := by simpa using hb
    subst hb'
    intro z
    subst z
    obtain ⟨q, hq, e2⟩ := List.mem_map.mp ha
    exact e (List.any_eq_true.mpr ⟨q, hq, decide_eq_true e2⟩)
theorem kput_nk {f : Int → List Int} : ∀ {ks : List Int} {m : List (Int × List Int)}, nkeys m → nkeys (kput f ks m)
  | [], _, h => h
  | _ :: ks, _, h => kput_nk (ks := ks) (aput_nk h)
theorem nd_len : ∀ {l l' : List Int}, l.Nodup → (∀ n ∈ l, n ∈ l') → l.length ≤ l'.length
  | [], _, _, _ => Nat.zero_le _
  | a :: t, l', h, s => by
    rw [List.nodup_cons] at h
    have ha := s a (by simp)
    have h1 := nd_len (l := t) (l' := l'.erase a) h.2 fun n hn => by
      have : n ≠ a := fun z => h.1 (by rw [← z]; exact hn)
      exact (List.mem_erase_of_ne this).mpr (s n (List.mem_cons_of_mem _ hn))
    rw [List.length_erase_of_mem ha] at h1
    have : 0 < l'.length := List.length_pos_of_mem ha
    rw [List.length_cons]; omega
theorem same_len {l m : List (Int × List Int)} (hl : nkeys l) (hm : nkeys m) (e : ∀ n, aget l n = aget m n) : l.length = m.length := by
  have h1 := nd_len hl (l' := m.map (·.1)) fun n hn => (key_iff m n).mpr (by rw [← e]; exact (key_iff l n).mp hn)
  have h2 := nd_len hm (l' := l.map (·.1)) fun n hn => (key_iff l n).mpr (by rw [e]; exact (key_iff m n).mp hn)
  rw [List.length_map, List.length_map] at h1 h2
  omega
theorem gs_nk : ∀ {gs : List (List (Int × List Int))} {m : List (Int × List Int)}, nkeys m → nkeys (gs.foldl puts m)
  | [], _, h => h
  | g :: gs, m, h => gs_nk (gs := gs) (by
    unfold puts
    clear gs_nk
    induction g generalizing m with
    | nil => exact h
    | cons q g ih => exact ih _ (aput_nk h))
/-! ### k06: pages 0 to 4, power that ends -/
def KQ (q : Int × List Int) : Prop := q.2.length = 256 ∧ 0 ≤ q.1 ∧ q.1 ≤ 4
structure K5 (l : List (Int × List Int)) : Prop where
  n : nkeys l
  q : ∀ x ∈ l, KQ x
theorem K5.nil : K5 [] := ⟨List.nodup_nil, fun x h => by cases h⟩
theorem K5.len {l : List (Int × List Int)} (h : K5 l) : l.length ≤ 5 := by
  have z := nd_len h.n (l' := [0, 1, 2, 3, 4]) fun n hn => by
    obtain ⟨q, hq, e⟩ := List.mem_map.mp hn
    obtain ⟨_, h0, h1⟩ := h.q q hq
    rw [e] at h0 h1
    rcases (by omega : n = 0 ∨ n = 1 ∨ n = 2 ∨ n = 3 ∨ n = 4) with e | e | e | e | e <;> rw [e] <;> decide
  rw [List.length_map] at z
  exact z
theorem K5.put {l : List (Int × List Int)} {n : Int} {ds : List Int} (h : K5 l) (hq : KQ (n, ds)) : K5 (aput l n ds) :=
  ⟨aput_nk h.n, fun x hx => by
    rcases aput_mem hx with y | y
    · exact h.q x y
    · rw [y]; exact hq⟩
theorem K5.puts : ∀ {g l : List (Int × List Int)}, K5 l → (∀ q ∈ g, KQ q) → K5 (NV.puts l g)
  | [], _, h, _ => h
  | q :: g, _, h, k => K5.puts (g := g) (h.put (n := q.1) (ds := q.2) (k q (by simp))) fun x hx => k x (List.mem_cons_of_mem _ hx)
theorem K5.gs : ∀ {gs : List (List (Int × List Int))} {l : List (Int × List Int)}, K5 l → (∀ g ∈ gs, ∀ q ∈ g, KQ q) → K5 (gs.foldl NV.puts l)
  | [], _, h, _ => h
  | g :: gs, _, h, k => K5.gs (gs := gs) (h.puts (k g (by simp))) fun x hx => k x (List.mem_cons_of_mem _ hx)
theorem K5.grp {l : List (Int × List Int)} (h : K5 l) : ∀ q ∈ NV.grp l, KQ q := fun q hq => by
  unfold NV.grp at hq
  obtain ⟨n, hn, rfl⟩ := List.mem_map.mp hq
  obtain ⟨d, hd, hm⟩ := mem_skeys hn
  rw [hd]
  exact h.q _ hm
theorem grp_len (l : List (Int × List Int)) : (grp l).length = l.length := by unfold grp; rw [List.length_map, skeys_len]
theorem K5.good {l : List (Int × List Int)} (h : K5 l) : Good (NV.grp l) := ⟨by have := h.len; rw [grp_len]; omega, fun q hq => by
  obtain ⟨a, b, e⟩ := h.grp q hq
  exact ⟨b, by omega, a⟩⟩
theorem K5.kput {f : Int → List Int} : ∀ {ks : List Int} {l : List (Int × List Int)}, K5 l → (∀ k ∈ ks, KQ (k, f k)) → K5 (NV.kput f ks l)
  | [], _, h, _ => h
  | _ :: ks, _, h, k => K5.kput (ks := ks) (h.put (k _ (by simp))) fun x hx => k x (List.mem_cons_of_mem _ hx)
theorem K5.coms {l m : List (Int × List Int)} (h : K5 l) (g : K5 m) : K5 (NV.coms l m) := by
  rw [coms_k]
  refine g.kput fun k hk => ?_
  obtain ⟨d, e, mm⟩ := mem_skeys ((skeys_perm l).mem_iff.mpr hk)
  unfold fv; rw [e]
  exact h.q _ mm
/-! ### power for n steps -/
def Pw (d : DevS) (n : Nat) : Prop := ∀ m, d.most = some m → d.done + n ≤ m
theorem can_y {d : DevS} {n : Nat} (h : Pw d (n + 1)) : can d = true := by
  unfold can
  cases e : d.most with
  | none => rfl
  | some m => have := h m e; exact decide_eq_true (by omega)
theorem can_n {d : DevS} (h : d.most = some d.done) : can d = false := by
  unfold can; rw [h]; exact decide_eq_false (by omega)
theorem dByte_y {d : DevS} {n : Nat} {b : Option Int} (h : Pw d (n + 1)) : dByte b d = ({ d with done := d.done + 1, steps := d.steps ++ [b] }, true) := by
  unfold dByte pw; rw [if_pos (can_y h)]
theorem dByte_n {d : DevS} {b : Option Int} (h : d.most = some d.done) : dByte b d = (d, false) := by
  unfold dByte pw; rw [if_neg (by rw [can_n h]; exact Bool.false_ne_true)]
theorem dWrite_y {d : DevS} {n : Nat} {k : Int} {ds : List Int} (h : Pw d (n + 1)) : dWrite k ds d = ({ d with done := d.done + 1, writes := d.writes ++ [(k, ds)] }, true) := by
  unfold dWrite pw; rw [if_pos (can_y h)]
theorem dWrite_n {d : DevS} {k : Int} {ds : List Int} (h : d.most = some d.done) : dWrite k ds d = (d, false) := by
  unfold dWrite pw; rw [if_neg (by rw [can_n h]; exact Bool.false_ne_true)]
theorem dSyncP_y {d : DevS} {n : Nat} (h : Pw d (n + 1)) : dSyncP d = ({ d with done := d.done + 1, pages := puts d.pages d.writes, writes := [] }, true) := by
  unfold dSyncP pw; rw [if_pos (can_y h)]; rfl
theorem dSyncP_n {d : DevS} (h : d.most = some d.done) : dSyncP d = (d, false) := by
  unfold dSyncP pw; rw [if_neg (by rw [can_n h]; exact Bool.false_ne_true)]
theorem dSyncL_y {d : DevS} {n : Nat} (h : Pw d (n + 1)) : dSyncL d = ({ d with done := d.done + 1, log := clog d, steps := [] }, true) := by
  unfold dSyncL pw; rw [if_pos (can_y h)]; rfl
theorem dSyncL_n {d : DevS} (h : d.most = some d.done) : dSyncL d = (d, false) := by
  unfold dSyncL pw; rw [if_neg (by rw [can_n h]; exact Bool.false_ne_true)]
theorem dApp_y : ∀ (bs : List Int) (d : DevS), Pw d bs.length → dApp bs d = ({ d with done := d.done + bs.length, steps := d.steps ++ bs.map some }, true)
  | [], d, _ => by
    show (d, true) = _
    simp
  | b :: bs, d, h => by
    show (if (dByte (some b) d).2 = true then dApp bs (dByte (some b) d).1 else (d, false)) = _
    rw [dByte_y (n := bs.length) h, if_pos rfl, dApp_y bs _ (fun m e => by have := h m e; rw [List.length_cons] at this; show d.done + 1 + _ ≤ m; omega)]
    simp only [Prod.mk.injEq, DevS.mk.injEq, true_and, and_true, List.map_cons, List.append_assoc, List.singleton_append, List.length_cons]
    omega
theorem dApp_n : ∀ (bs : List Int) (d : DevS) (r : Nat), d.most = some (d.done + r) → r < bs.length → dApp bs d = ({ d with done := d.done + r, steps := d.steps ++ (bs.take r).map some }, false)
  | [], d, r, _, l => absurd l (by simp)
  | b :: bs, d, 0, h, _ => by
    show (if (dByte (some b) d).2 = true then dApp bs (dByte (some b) d).1 else (d, false)) = _
    rw [dByte_n (by rw [h]; simp), if_neg Bool.false_ne_true]
    simp
  | b :: bs, d, r + 1, h, l => by
    show (if (dByte (some b) d).2 = true then dApp bs (dByte (some b) d).1 else (d, false)) = _
    rw [dByte_y (n := 0) (fun m e => by rw [h] at e; cases e; omega), if_pos rfl, dApp_n bs _ r (by show d.most = some (d.done + 1 + r); rw [h]; congr 1; omega) (by simpa using l)]
    simp only [Prod.mk.injEq, DevS.mk.injEq, true_and, and_true, List.map_cons, List.take_succ_cons, List.append_assoc, List.singleton_append]
    omega
theorem pwrites_y : ∀ (ws : List (Int × List Int)) (d : DevS), Pw d ws.length → pwrites ws d = ({ d with done := d.done + ws.length, writes := d.writes ++ ws }, true)
  | [], d, _ => by
    show (d, true) = _
    simp
  | q :: ws, d, h => by
    show (if (dWrite q.1 q.2 d).2 = true then pwrites ws (dWrite q.1 q.2 d).1 else (d, false)) = _
    rw [dWrite_y (n := ws.length) h, if_pos rfl, pwrites_y ws _ (fun m e => by have := h m e; rw [List.length_cons] at this; show d.done + 1 + _ ≤ m; omega)]
    simp only [Prod.mk.injEq, DevS.mk.injEq, true_and, and_true, List.append_assoc, List.singleton_append, List.length_cons]
    omega
theorem pwrites_n : ∀ (ws : List (Int × List Int)) (d : DevS) (r : Nat), d.most = some (d.done + r) → r < ws.length → pwrites ws d = ({ d with done := d.done + r, writes := d.writes ++ ws.take r }, false)
  | [], d, r, _, l => absurd l (by simp)
  | q :: ws, d, 0, h, _ => by
    show (if (dWrite q.1 q.2 d).2 = true then pwrites ws (dWrite q.1 q.2 d).1 else (d, false)) = _
    rw [dWrite_n (by rw [h]; simp), if_neg Bool.false_ne_true]
    simp
  | q :: ws, d, r + 1, h, l => by
    show (if (dWrite q.1 q.2 d).2 = true then pwrites ws (dWrite q.1 q.2 d).1 else (d, false)) = _
    rw [dWrite_y (n := 0) (fun m e => by rw [h] at e; cases e; omega), if_pos rfl, pwrites_n ws _ r (by show d.most = some (d.done + 1 + r); rw [h]; congr 1; omega) (by simpa using l)]
    simp only [Prod.mk.injEq, DevS.mk.injEq, true_and, and_true, List.take_succ_cons, List.append_assoc, List.singleton_append]
    omega
/-! ### a device at rest, and what it shows -/
def rv (gs : List (List (Int × List Int))) (pages : List (Int × List Int)) : Int → List Int := fun n => (orD (aget (gs.foldl puts []) n) (aget pages n)).getD zeros
structure A6 (i : Nat) (d : DevS) (gs : List (List (Int × List Int))) (more : List (Int × List Int)) (j : Nat) : Prop where
  w : d.writes = []
  st : d.steps = []
  lg : d.log = gs.flatMap wg ++ (wg more).take j
  lj : j < (wg more).length
  gd : ∀ g ∈ gs, Good g
  gk : ∀ g ∈ gs, ∀ q ∈ g, KQ q
  gl : ∀ g ∈ gs, g.length ≤ 5
  gm : Good more
  ml : more.length ≤ 5
  kp : K5 d.pages
  n4 : gs.length ≤ i
theorem A6.up {i i' : Nat} {d d' : DevS} {gs : List (List (Int × List Int))} {more : List (Int × List Int)} {j : Nat} (h : A6 i d gs more j) (hi : i ≤ i') (e1 : d'.pages = d.pages) (e2 : d'.writes = []) (e3 : d'.log = d.log) (e4 : d'.steps = []) : A6 i' d' gs more j :=
  ⟨e2, e4, e3.trans h.lg, h.lj, h.gd, h.gk, h.gl, h.gm, h.ml, by rw [e1]; exact h.kp, by have := h.n4; omega⟩
theorem good_nil : Good [] := ⟨Nat.zero_le _, fun q h => by cases h⟩
theorem log5 : ∀ {gs : List (List (Int × List Int))}, (∀ g ∈ gs, Good g) → (∀ g ∈ gs, g.length ≤ 5) → (gs.flatMap wg).length ≤ 1304 * gs.length
  | [], _, _ => Nat.le_refl _
  | g :: gs, h, k => by
    have h1 := log5 (gs := gs) (fun x hx => h x (List.mem_cons_of_mem _ hx)) fun x hx => k x (List.mem_cons_of_mem _ hx)
    have h3 := k g (by simp)
    rw [List.flatMap_cons, List.length_append, wg_len (h g (by simp)), List.length_cons]
    omega
theorem A6.ll {i : Nat} {d : DevS} {gs : List (List (Int × List Int))} {more : List (Int × List Int)} {j : Nat} (h : A6 i d gs more j) : d.log.length ≤ 1304 * i + 1304 := by
  have h1 := log5 h.gd h.gl
  have h2 := h.n4
  have h3 := wg_len h.gm
  have h4 := h.ml
  have h5 := h.lj
  rw [h.lg, List.length_append, List.length_take]
  omega
theorem K5.sz {l : List (Int × List Int)} (h : K5 l) : Sz l := fun q hq => Nat.le_of_eq (h.q q hq).1
theorem A6.rest {i : Nat} {d : DevS} {gs : List (List (Int × List Int))} {more : List (Int × List Int)} {j : Nat} (h : A6 i d gs more j) (fs : List Int) (kept : Nat) : A6 i (dCrash fs kept d) gs more j ∧ (dCrash fs kept d).pages = d.pages := by
  have e : (dCrash fs kept d).pages = d.pages := by
    show (d.writes.zip fs).foldl dFate d.pages = d.pages
    rw [h.w]; rfl
  refine ⟨h.up (Nat.le_refl _) e rfl ?_ rfl, e⟩
  show (d.steps.take kept).foldl lstep d.log = d.log
  rw [h.st, List.take_nil]; rfl
/-- a device that crashes to v whatever the fates -/
structure Cut (i : Nat) (d : DevS) (v : Int → List Int) : Prop where
  sm : Sml d
  nw : d.writes.length ≤ 5
  ns : d.steps.length ≤ 100000
  cr : ∀ fs kept, ∃ gs more j, A6 i (dCrash fs kept d) gs more j ∧ rv gs (dCrash fs kept d).pages = v
theorem A6.cut {i : Nat} {d : DevS} {gs : List (List (Int × List Int))} {more : List (Int × List Int)} {j : Nat} (h : A6 i d gs more j) (hi : i ≤ 100) : Cut i d (rv gs d.pages) := by
  have l := h.ll
  have p := h.kp.len
  refine ⟨⟨by rw [h.w]; exact Nat.zero_le _, by rw [h.w]; show _ + 0 ≤ _; omega, by rw [h.st]; show _ + 0 ≤ _; omega, h.kp.sz, by rw [h.w]; exact fun q hq => (by cases hq)⟩, by rw [h.w]; exact Nat.zero_le _, by rw [h.st]; exact Nat.zero_le _, fun fs kept => ?_⟩
  obtain ⟨a, e⟩ := h.rest fs kept
  exact ⟨gs, more, j, a, by rw [e]⟩
/-- a pager over a device at rest -/
structure C6 (i : Nat) (s : PgS) (gs : List (List (Int × List Int))) (more : List (Int × List Int)) (j : Nat) : Prop where
  a : A6 i s.dev gs more j
  cv : ∀ n, aget s.com n = aget (gs.foldl puts []) n
  kc : K5 s.com
  kd : K5 s.dir
theorem gpg_w {s : PgS} (h : s.dev.writes = []) (n : Int) : gpg s n = (orD (aget s.dir n) (orD (aget s.com n) (aget s.dev.pages n))).getD zeros := by
  unfold gpg
  cases e1 : aget s.dir n with
  | some d => rfl
  | none =>
    cases e2 : aget s.com n with
    | some d => rfl
    | none =>
      show cpg s.dev n = _
      unfold cpg; rw [h]; rfl
section
variable {i j : Nat} {s : PgS} {gs : List (List (Int × List Int))} {more : List (Int × List Int)} {d : DevS}
theorem C6.v (h : C6 i s gs more j) (n : Int) : gpg s n = (orD (aget s.dir n) (orD (aget (gs.foldl puts []) n) (aget s.dev.pages n))).getD zeros := by rw [gpg_w h.a.w, h.cv]
theorem C6.bv (h : C6 i s gs more j) : NV.bv s = rv gs s.dev.pages := by
  funext n
  have e : gpg { s with dir := [] } n = _ := gpg_w (s := { s with dir := [] }) h.a.w n
  unfold NV.bv; rw [e]
  show (orD (aget [] n) _).getD zeros = _
  rw [aget_nil, orD_none, h.cv]; rfl
theorem C6.z (h : C6 i s gs more j) (n : Int) : (gpg s n).length = 256 := by
  rw [gpg_w h.a.w]
  cases e1 : aget s.dir n with
  | some d => exact (h.kd.q _ (aget_mem' e1)).1
  | none =>
    cases e2 : aget s.com n with
    | some d => exact (h.kc.q _ (aget_mem' e2)).1
    | none =>
      cases e3 : aget s.dev.pages n with
      | some d => exact (h.a.kp.q _ (aget_mem' e3)).1
      | none => exact zeros_len
theorem C6.sml (h : C6 i s gs more j) (hi : i ≤ 100) : Sml s.dev := (h.a.cut hi).sm
theorem C6.ckz (h : C6 i s gs more j) (hi : i ≤ 100) : CkZ s := by
  have l := h.a.ll
  have p := h.a.kp.len
  have c := h.kc.len
  exact ⟨by rw [h.a.w]; exact Nat.zero_le _, by rw [h.a.w]; show _ + 0 ≤ _; omega, by rw [h.a.st]; show _ + 0 ≤ _; omega, h.a.kp.sz, by rw [h.a.w]; exact fun q hq => (by cases hq), by omega, fun q hq => (h.kc.q q hq).1⟩
theorem C6.pgz (h : C6 i s gs more j) (hi : i ≤ 100) : PgZ s := by
  have l := h.a.ll
  have p := h.a.kp.len
  have c := h.kc.len
  have d := h.kd.len
  exact ⟨by rw [h.a.w]; exact Nat.zero_le _, by rw [h.a.w]; show _ + 0 ≤ _; omega, by rw [h.a.st]; show _ + 0 ≤ _; omega, h.a.kp.sz, by rw [h.a.w]; exact fun q hq => (by cases hq), by omega, by omega, fun q hq => (h.kc.q q hq).1, fun q hq => ⟨(h.kd.q q hq).1, (h.kd.q q hq).2.1, by have := (h.kd.q q hq).2.2; omega⟩⟩
theorem C6.put (h : C6 i s gs more j) {n : Int} {ds : List Int} (hq : KQ (n, ds)) : C6 i (pwr n ds s) gs more j := ⟨h.a, h.cv, h.kc, h.kd.put hq⟩
theorem C6.set (h : C6 i s gs more j) {f : Nat} {x : Int} (hf : f ≤ 7) : C6 i (setf f x s) gs more j := h.put ⟨by rw [spl_len (by rw [h.z]; omega)]; exact h.z 0, Int.le_refl _, (by decide : (0 : Int) ≤ 4)⟩
theorem C6.cn (h : C6 i s gs more j) : C6 i (cnth s) gs more j := by
  unfold cnth; split
  · exact h.set (by decide)
  · exact h
theorem C6.lim (h : C6 i s gs more j) (o : Option Int) : C6 i { s with dev := dLimit o s.dev } gs more j := ⟨h.a.up (Nat.le_refl _) rfl h.a.w rfl h.a.st, h.cv, h.kc, h.kd⟩
theorem C6.of (h : A6 i d gs more j) : C6 i (pini0 gs d) gs more j := ⟨h, fun _ => rfl, K5.gs K5.nil h.gk, K5.nil⟩
/-! ### a commit -/
theorem flat_snoc (gs : List (List (Int × List Int))) (g : List (Int × List Int)) : (gs ++ [g]).flatMap wg = gs.flatMap wg ++ wg g := by rw [List.flatMap_append]; simp
theorem pc_y (h : C6 i s gs [] 0) (e : s.dir.length ≠ 0) (p : Pw s.dev ((wg (grp s.dir)).length + 1)) : pcommit s = ({ dev := { s.dev with done := s.dev.done + (wg (grp s.dir)).length + 1, log := s.dev.log ++ wg (grp s.dir), steps := [] }, com := coms s.dir s.com, dir := [] }, true) := by
  have c1 : (andD (dApp (wg (grp s.dir)) s.dev) dSyncL) = ({ s.dev with done := s.dev.done + (wg (grp s.dir)).length + 1, log := s.dev.log ++ wg (grp s.dir), steps := [] }, true) := by
    rw [dApp_y _ _ (fun m z => by have := p m z; omega), andD_yes rfl, dSyncL_y (n := 0) (fun m z => by have := p m z; show s.dev.done + _ + _ ≤ m; omega)]
    unfold NV.clog
    show (({ pages := s.dev.pages, writes := s.dev.writes, log := (s.dev.steps ++ (wg (grp s.dir)).map some).foldl lstep s.dev.log, steps := [], done := _, most := _ } : DevS), true) = _
    rw [h.a.st, List.nil_append, fold_some]
  unfold pcommit; rw [if_neg e, c1]; rfl
theorem pc_n {r : Nat} (h : C6 i s gs [] 0) (e : s.dir.length ≠ 0) (m : s.dev.most = some (s.dev.done + r)) (l : r ≤ (wg (grp s.dir)).length) : pcommit s = ({ s with dev := { s.dev with done := s.dev.done + r, steps := ((wg (grp s.dir)).take r).map some } }, false) := by
  have c1 : (andD (dApp (wg (grp s.dir)) s.dev) dSyncL) = ({ s.dev with done := s.dev.done + r, steps := ((wg (grp s.dir)).take r).map some }, false) := by
    by_cases q : r < (wg (grp s.dir)).length
    · rw [dApp_n _ _ r m q, andD_no rfl, h.a.st, List.nil_append]
    · obtain rfl : r = (wg (grp s.dir)).length := by omega
      rw [dApp_y _ _ (fun x z => by rw [m] at z; cases z; omega), andD_yes rfl, dSyncL_n (by exact m), h.a.st, List.nil_append, List.take_length]
  unfold pcommit; rw [if_neg e, c1]; rfl
theorem puts_snoc (gs : List (List (Int × List Int))) (g : List (Int × List Int)) : (gs ++ [g]).foldl puts [] = puts (gs.foldl puts []) g := by rw [List.foldl_append, List.foldl_cons, List.foldl_nil]
theorem rv_snoc (h : C6 i s gs [] 0) : rv (gs ++ [grp s.dir]) s.dev.pages = gpg s := by
  funext n
  rw [h.v]
  unfold rv
  rw [puts_snoc, aget_pgrp, orD_as]
theorem pc_c (h : C6 i s gs [] 0) {x : Int} : C6 (i + 1) { dev := { s.dev with done := x, log := s.dev.log ++ wg (grp s.dir), steps := [] }, com := coms s.dir s.com, dir := [] } (gs ++ [grp s.dir]) [] 0 := by
  refine ⟨⟨h.a.w, rfl, ?_, h.a.lj, ?_, ?_, ?_, h.a.gm, h.a.ml, h.a.kp, ?_⟩, fun n => ?_, h.kd.coms h.kc, K5.nil⟩
  · show s.dev.log ++ wg (grp s.dir) = _
    rw [h.a.lg, flat_snoc]; simp
  · exact fun g hg => by
      rcases List.mem_append.mp hg with hg | hg
      · exact h.a.gd g hg
      · rw [List.mem_singleton.mp hg]; exact h.kd.good
  · exact fun g hg => by
      rcases List.mem_append.mp hg with hg | hg
      · exact h.a.gk g hg
      · rw [List.mem_singleton.mp hg]; exact h.kd.grp
  · exact fun g hg => by
      rcases List.mem_append.mp hg with hg | hg
      · exact h.a.gl g hg
      · rw [List.mem_singleton.mp hg, grp_len]; exact h.kd.len
  · have := h.a.n4; rw [List.length_append, List.length_singleton]; omega
  · show aget (coms s.dir s.com) n = _
    rw [aget_coms, puts_snoc, aget_pgrp, h.cv]
theorem pc_v (h : C6 i s gs [] 0) {x : Int} : gpg { dev := { s.dev with done := x, log := s.dev.log ++ wg (grp s.dir), steps := [] }, com := coms s.dir s.com, dir := [] } = gpg s := by
  funext n
  rw [(pc_c h (x := x)).v n]
  show (orD (aget [] n) (orD (aget ((gs ++ [grp s.dir]).foldl puts []) n) (aget s.dev.pages n))).getD zeros = _
  rw [aget_nil, orD_none, ← rv_snoc h]; rfl
theorem take_some (bs : List Int) (r k : Nat) : ((bs.take r).map some).take k = (bs.take (min k r)).map some := by rw [← List.map_take, List.take_take]
/-- the crash behind a commit that was cut off -/
theorem pc_cr {r : Nat} (h : C6 i s gs [] 0) (e : s.dir.length ≠ 0) (l : r ≤ (wg (grp s.dir)).length) {x : Int} (fs : List Int) (kept : Nat) (hk : kept ≤ r) :
    ∃ gs' more j, A6 (i + 1) (dCrash fs kept { s.dev with done := x, steps := ((wg (grp s.dir)).take r).map some }) gs' more j ∧
      rv gs' (dCrash fs kept { s.dev with done := x, steps := ((wg (grp s.dir)).take r).map some }).pages = if (wg (grp s.dir)).length ≤ kept then gpg s else bv s := by
  have ep : (dCrash fs kept { s.dev with done := x, steps := ((wg (grp s.dir)).take r).map some }).pages = s.dev.pages := by
    show (s.dev.writes.zip fs).foldl dFate s.dev.pages = s.dev.pages
    rw [h.a.w]; rfl
  have el : (dCrash fs kept { s.dev with done := x, steps := ((wg (grp s.dir)).take r).map some }).log = s.dev.log ++ (wg (grp s.dir)).take kept := by
    show ((((wg (grp s.dir)).take r).map some).take kept).foldl lstep s.dev.log = _
    rw [take_some, fold_some, Nat.min_eq_left hk]
  by_cases q : (wg (grp s.dir)).length ≤ kept
  · rw [if_pos q, ← rv_snoc h]
    refine ⟨gs ++ [grp s.dir], [], 0, (pc_c h (x := x)).a.up (Nat.le_refl _) ep rfl ?_ rfl, by rw [ep]⟩
    rw [el, List.take_of_length_le q]
  · rw [if_neg q, h.bv]
    refine ⟨gs, grp s.dir, kept, ⟨rfl, rfl, ?_, by omega, h.a.gd, h.a.gk, h.a.gl, h.kd.good, by rw [grp_len]; exact h.kd.len, by rw [ep]; exact h.a.kp, by have := h.a.n4; omega⟩, by rw [ep]⟩
    rw [el, h.a.lg]; simp
/-! ### a checkpoint -/
theorem fates_key {n : Int} : ∀ {l : List ((Int × List Int) × Int)} {pages : List (Int × List Int)}, (∀ q ∈ l, q.1.1 ≠ n) → aget (l.foldl dFate pages) n = aget pages n
  | [], _, _ => rfl
  | q :: l, pages, h => by
    rw [List.foldl_cons, fates_key (l := l) fun x hx => h x (List.mem_cons_of_mem _ hx)]
    have hn : n ≠ q.1.1 := (h q (by simp)).symm
    unfold dFate
    split
    · exact aget_put_ne _ _ hn
    · split
      · exact aget_put_ne _ _ hn
      · rfl
theorem fates_k5 : ∀ {l : List ((Int × List Int) × Int)} {pages : List (Int × List Int)}, K5 pages → (∀ q ∈ l, KQ q.1) → K5 (l.foldl dFate pages)
  | [], _, h, _ => h
  | q :: l, pages, h, k => by
    refine fates_k5 (l := l) ?_ fun x hx => k x (List.mem_cons_of_mem _ hx)
    obtain ⟨k1, k2, k3⟩ := k q (by simp)
    unfold dFate
    split
    · exact h.put ⟨k1, k2, k3⟩
    · split
      · refine h.put ⟨?_, k2, k3⟩
        show (q.1.2.take 128 ++ ((aget pages q.1.1).getD zeros).drop 128).length = 256
        have : ((aget pages q.1.1).getD zeros).length = 256 := by
          cases e : aget pages q.1.1 with
          | none => exact zeros_len
          | some d => exact (h.q _ (aget_mem' e)).1
        rw [List.length_append, List.length_take, List.length_drop, this, k1]; rfl
      · exact h
theorem ck_y (h : C6 i s gs more j) (p : Pw s.dev (s.com.length + 3)) : pckpt s = ({ dev := { pages := puts s.dev.pages (grp s.com), writes := [], log := [], steps := [], done := s.dev.done + s.com.length + 1 + 1 + 1, most := s.dev.most }, com := [], dir := s.dir }, true) := by
  have c1 : andD (andD (andD (pwrites (grp s.com) s.dev) dSyncP) (dByte none)) dSyncL = ({ pages := puts s.dev.pages (grp s.com), writes := [], log := [], steps := [], done := s.dev.done + s.com.length + 1 + 1 + 1, most := s.dev.most }, true) := by
    rw [pwrites_y _ _ (fun m z => by have := p m z; rw [grp_len]; omega), andD_mk, dSyncP_y (n := 0) (fun m z => by have := p m z; rw [grp_len]; show s.dev.done + _ + _ ≤ m; omega), andD_mk,
      dByte_y (n := 0) (fun m z => by have := p m z; rw [grp_len]; show s.dev.done + _ + 1 + _ ≤ m; omega), andD_mk, dSyncL_y (n := 0) (fun m z => by have := p m z; rw [grp_len]; show s.dev.done + _ + 1 + 1 + _ ≤ m; omega)]
    unfold NV.clog
    simp [h.a.w, h.a.st, lstep, grp_len]
  unfold pckpt; rw [c1]; rfl
theorem ck_c (h : C6 i s gs more j) {x : Int} {m : Option Int} : C6 i { dev := { pages := puts s.dev.pages (grp s.com), writes := [], log := [], steps := [], done := x, most := m }, com := [], dir := s.dir } [] [] 0 :=
  ⟨⟨rfl, rfl, rfl, by decide, fun g z => (by cases z), fun g z => (by cases z), fun g z => (by cases z), good_nil, Nat.zero_le _, h.a.kp.puts h.kc.grp, Nat.zero_le _⟩, fun n => rfl, K5.nil, h.kd⟩
theorem ck_rv (h : C6 i s gs more j) : rv [] (puts s.dev.pages (grp s.com)) = rv gs s.dev.pages := by
  funext n
  show (orD (aget [] n) (aget (puts s.dev.pages (grp s.com)) n)).getD zeros = _
  rw [aget_nil, orD_none, aget_pgrp, h.cv]; rfl
theorem ck_rv' (h : C6 i s gs more j) : rv gs (puts s.dev.pages (grp s.com)) = rv gs s.dev.pages := by
  funext n
  show (orD (aget (gs.foldl puts []) n) (aget (puts s.dev.pages (grp s.com)) n)).getD zeros = _
  rw [aget_pgrp, h.cv, ← orD_as]
  unfold rv
  cases aget (gs.foldl puts []) n <;> rfl
theorem ck_v (h : C6 i s gs more j) {x : Int} {m : Option Int} : gpg { dev := { pages := puts s.dev.pages (grp s.com), writes := [], log := [], steps := [], done := x, most := m }, com := [], dir := s.dir } = gpg s := by
  funext n
  rw [(ck_c h (x := x) (m := m)).v, h.v]
  show (orD (aget s.dir n) (orD (aget [] n) (aget (puts s.dev.pages (grp s.com)) n))).getD zeros = _
  rw [aget_nil, orD_none, aget_pgrp, h.cv]
/-- a checkpoint that the power cuts off: what a crash leaves -/
theorem ck_n {r : Nat} (h : C6 i s gs more j) (hi : i ≤ 100) (m : s.dev.most = some (s.dev.done + r)) (l : r < s.com.length + 3) : ∃ d', pckpt s = ({ s with dev := d' }, false) ∧ d'.done = s.dev.done + r ∧ Cut i d' (rv gs s.dev.pages) := by
  have ll := h.a.ll
  have pl := h.a.kp.len
  have cl := h.kc.len
  have kg := h.kc.grp
  have gl := grp_len s.com
  have gz : Sz (grp s.com) := fun q hq => Nat.le_of_eq (kg q hq).1
  -- the writes are pending
  have part : ∀ (ws : List (Int × List Int)) (x : Int), (∀ q ∈ ws, q ∈ grp s.com) → ws.length ≤ s.com.length → Cut i { s.dev with done := x, writes := ws } (rv gs s.dev.pages) := fun ws x sub wl => by
    have kw : ∀ q ∈ ws, KQ q := fun q hq => kg q (sub q hq)
    refine ⟨⟨by show ws.length ≤ _; omega, by show s.dev.pages.length + ws.length ≤ _; omega, by rw [h.a.st]; show s.dev.log.length + 0 ≤ _; omega, h.a.kp.sz, fun q hq => Nat.le_of_eq (kw q hq).1⟩, by show ws.length ≤ _; omega, by rw [h.a.st]; exact Nat.zero_le _, fun fs kept => ⟨gs, more, j, ⟨rfl, rfl, ?_, h.a.lj, h.a.gd, h.a.gk, h.a.gl, h.a.gm, h.a.ml, ?_, h.a.n4⟩, ?_⟩⟩
    · show (s.dev.steps.take kept).foldl lstep s.dev.log = _
      rw [h.a.st, List.take_nil]; exact h.a.lg
    · exact fates_k5 h.a.kp fun q hq => kw q.1 (List.of_mem_zip hq).1
    · funext n
      show (orD (aget (gs.foldl puts []) n) (aget ((ws.zip fs).foldl dFate s.dev.pages) n)).getD zeros = (orD (aget (gs.foldl puts []) n) (aget s.dev.pages n)).getD zeros
      cases e : aget (gs.foldl puts []) n with
      | some d => rfl
      | none =>
        rw [fates_key fun q hq z => ?_]
        have hm := sub q.1 (List.of_mem_zip hq).1
        unfold grp at hm
        obtain ⟨k, hk, ek⟩ := List.mem_map.mp hm
        obtain ⟨d, hd, _⟩ := mem_skeys hk
        have : k = n := by rw [← z, ← ek]
        rw [this, h.cv, e] at hd
        cases hd
  -- the pages are synced
  have done : ∀ (x : Int) (st : List (Option Int)), (st = [] ∨ st = [none]) → Cut i { s.dev with done := x, pages := puts s.dev.pages (grp s.com), writes := [], steps := st } (rv gs s.dev.pages) := fun x st hs => by
    have kp : K5 (puts s.dev.pages (grp s.com)) := h.a.kp.puts kg
    have pl' := kp.len
    have sl : st.length ≤ 1 := by rcases hs with e | e <;> rw [e] <;> decide
    refine ⟨⟨Nat.zero_le _, by show (puts s.dev.pages (grp s.com)).length + 0 ≤ _; omega, by show s.dev.log.length + st.length ≤ _; omega, kp.sz, fun q hq => (by cases hq)⟩, Nat.zero_le _, by show st.length ≤ _; omega, fun fs kept => ?_⟩
    have base : ∀ lg, lg = s.dev.log → (dCrash fs kept { s.dev with done := x, pages := puts s.dev.pages (grp s.com), writes := [], steps := st }).log = lg → ∃ gs' more' j', A6 i (dCrash fs kept { s.dev with done := x, pages := puts s.dev.pages (grp s.com), writes := [], steps := st }) gs' more' j' ∧ rv gs' (dCrash fs kept { s.dev with done := x, pages := puts s.dev.pages (grp s.com), writes := [], steps := st }).pages = rv gs s.dev.pages := fun lg e1 e2 =>
      ⟨gs, more, j, ⟨rfl, rfl, by rw [e2, e1]; exact h.a.lg, h.a.lj, h.a.gd, h.a.gk, h.a.gl, h.a.gm, h.a.ml, kp, h.a.n4⟩, ck_rv' h⟩
    rcases hs with rfl | rfl
    · exact base _ rfl (by show (([] : List (Option Int)).take kept).foldl lstep s.dev.log = _; rw [List.take_nil]; rfl)
    · cases kept with
      | zero => exact base _ rfl rfl
      | succ k =>
        refine ⟨[], [], 0, ⟨rfl, rfl, ?_, by decide, fun g z => (by cases z), fun g z => (by cases z), fun g z => (by cases z), good_nil, Nat.zero_le _, kp, Nat.zero_le _⟩, ck_rv h⟩
        show (([none] : List (Option Int)).take (k + 1)).foldl lstep s.dev.log = []
        simp [lstep]
  have fin : ∀ (d' : DevS), andD (andD (andD (pwrites (grp s.com) s.dev) dSyncP) (dByte none)) dSyncL = (d', false) → pckpt s = ({ s with dev := d' }, false) := fun d' e => by unfold pckpt; rw [e]; rfl
  by_cases q1 : r < s.com.length
  · refine ⟨_, fin _ (by rw [pwrites_n _ _ r m (by omega), andD_no rfl, andD_no rfl, andD_no rfl]), rfl, ?_⟩
    rw [h.a.w, List.nil_append]
    exact part _ _ (fun q hq => List.mem_of_mem_take hq) (by rw [List.length_take]; omega)
  · have c0 : pwrites (grp s.com) s.dev = ({ s.dev with done := s.dev.done + s.com.length, writes := grp s.com }, true) := by
      rw [pwrites_y _ _ (fun x z => by rw [m] at z; cases z; rw [gl]; omega), h.a.w, List.nil_append, gl]
    by_cases q2 : r = s.com.length
    · refine ⟨_, fin _ (by rw [c0, andD_mk, dSyncP_n (by show s.dev.most = _; rw [m, q2]), andD_no rfl, andD_no rfl]), by show s.dev.done + _ = _; rw [q2], ?_⟩
      exact part _ _ (fun q hq => hq) (by omega)
    · have c2 : andD (pwrites (grp s.com) s.dev) dSyncP = ({ s.dev with done := s.dev.done + s.com.length + 1, pages := puts s.dev.pages (grp s.com), writes := [] }, true) := by
        rw [c0, andD_mk, dSyncP_y (n := 0) (fun x z => by rw [show ({ s.dev with done := s.dev.done + s.com.length, writes := grp s.com } : DevS).most = s.dev.most from rfl, m] at z; cases z; show s.dev.done + _ + _ ≤ _; omega)]
      by_cases q3 : r = s.com.length + 1
      · refine ⟨_, fin _ (by rw [c2, andD_mk, dByte_n (by show s.dev.most = some (s.dev.done + s.com.length + 1); rw [m, q3]; congr 1; omega), andD_no rfl]), by show s.dev.done + _ + 1 = _; rw [q3]; omega, ?_⟩
        have z := done (s.dev.done + s.com.length + 1) s.dev.steps (.inl h.a.st)
        exact z
      · obtain rfl : r = s.com.length + 2 := by omega
        refine ⟨_, fin _ (by
          rw [c2, andD_mk, dByte_y (n := 0) (fun x z => by rw [show ({ s.dev with done := s.dev.done + s.com.length + 1, pages := puts s.dev.pages (grp s.com), writes := [] } : DevS).most = s.dev.most from rfl, m] at z; cases z; show s.dev.done + _ + 1 + _ ≤ _; omega), andD_mk, dSyncL_n (by show s.dev.most = some (s.dev.done + s.com.length + 1 + 1); rw [m]; congr 1; omega)]), by show s.dev.done + _ + 1 + 1 = _; omega, ?_⟩
        exact done _ _ (.inr (by show s.dev.steps ++ [none] = _; rw [h.a.st]; rfl))
/-! ### an opening -/
theorem open6 (h : A6 i d gs more j) (hi : i ≤ 100) (hp : d.most = none ∨ ∃ r : Nat, d.most = some (d.done + r)) :
    (∃ s1, pini1 gs d = (s1, true) ∧ C6 i s1 [] [] 0 ∧ s1.dir = [] ∧ gpg s1 = rv gs d.pages ∧ s1.dev.most = d.most) ∨
    ∃ s1 r, pini1 gs d = (s1, false) ∧ d.most = some (d.done + (r : Nat)) ∧ s1.dev.done = d.done + r ∧ Cut i s1.dev (rv gs d.pages) := by
  have C := C6.of h
  by_cases e : 0 < (clog d).length
  · have yes : Pw d ((pini0 gs d).com.length + 3) → (∃ s1, pini1 gs d = (s1, true) ∧ C6 i s1 [] [] 0 ∧ s1.dir = [] ∧ gpg s1 = rv gs d.pages ∧ s1.dev.most = d.most) := fun p =>
      ⟨{ dev := { pages := puts d.pages (grp (pini0 gs d).com), writes := [], log := [], steps := [], done := d.done + (pini0 gs d).com.length + 1 + 1 + 1, most := d.most }, com := [], dir := [] }, by unfold pini1; rw [if_pos e, ck_y C p]; rfl, ck_c C, rfl, (ck_v C).trans (by funext n; rw [C.v]; rfl), rfl⟩
    rcases hp with hp | ⟨r, hp⟩
    · exact .inl (yes fun m z => by rw [hp] at z; cases z)
    · by_cases q : r < (pini0 gs d).com.length + 3
      · obtain ⟨d', e1, e2, e3⟩ := ck_n C hi hp q
        exact .inr ⟨_, r, by unfold pini1; rw [if_pos e, e1], hp, e2, e3⟩
      · exact .inl (yes fun m z => by rw [hp] at z; cases z; omega)
  · refine .inl ⟨pini0 gs d, by unfold pini1; rw [if_neg e], ?_, rfl, by funext n; rw [C.v]; rfl, rfl⟩
    have ed : d.log = [] := by
      have : clog d = d.log := by unfold clog; rw [h.st]; rfl
      rw [this] at e
      exact List.eq_nil_of_length_eq_zero (by omega)
    have eg : gs = [] := by
      cases gs with
      | nil => rfl
      | cons g gs' =>
        exfalso
        have z := h.lg
        rw [ed] at z
        have z2 := congrArg List.length z
        rw [List.length_append, List.flatMap_cons, List.length_append, wg_len (h.gd g (by simp))] at z2
        simp at z2
        omega
    subst eg
    exact ⟨⟨h.w, h.st, by show d.log = _; rw [ed]; rfl, by decide, fun g z => (by cases z), fun g z => (by cases z), fun g z => (by cases z), good_nil, Nat.zero_le _, h.kp, Nat.zero_le _⟩, fun n => rfl, K5.nil, K5.nil⟩
end
section
variable {σ : L2.St} {H : Hp} {Q : VK} {tk tv : TE} {r : List (TE × TE)} {R : List (V × V) → Hp → Prop}
theorem x_pc (h : tk σ H fun x H1 => tv σ H1 fun y H2 => tPairs r σ H2 fun ps H3 => R ((x, y) :: ps) H3) : tPairs ((tk, tv) :: r) σ H R := h
theorem x_pn (h : R [] H) : tPairs [] σ H R := h
end
/-! ### != of two dicts whose values may be lists -/
section
open PySem.W PySem.Calls PyProof.Rows PyProof.V PySem.Spec
theorem ne_dicts {PG : Program} {wo : World} {AR : Around} {EE QQ : Value → Shared → Prop} {sh : Shared} {a b : Addr} {ks ls : List (Key × Value)} (na : (a == sysModules) = false) (nb : (b == sysModules) = false) (Da : sh.heap.DictOf (mixKind PG wo) a ks) (Db : sh.heap.DictOf (mixKind PG wo) b ls)
    (un : AR.units < cLine) (hit : KeqHitsP PG wo AR.in1 sh ls ks true) (len : ks.length = ls.length) (fin : QQ (.bool false) sh) : wpAny (model PG wo) AR (compareOp .NotEq (.ref a) (.ref b)) QQ EE sh :=
  wpAny_richCompare_same_room (op := .NotEq) Da.typeIs Db.typeIs PySem.F.slot_dict_ne (wpAny_call_entry PySem.F.slot_dict_ne Da.typeIs PySem.F.entry_dict_ne (by
    show wpAny _ _ (Builtin.Dict.dictSlotArgs "__ne__" ⟨[.ref a, .ref b], []⟩ >>= _) _ _ sh
    unfold Builtin.Dict.dictSlotArgs
    apply wpAny_bind; apply wpAny_bind; apply wpAny_notOrdered_dict Da.typeIs
    show wpAny _ _ (pure (Value.ref a, Value.ref b)) _ _ sh
    apply wpAny_pure; apply wpAny_bind; apply wpAny_isInstance (T := "dict") Db.typeIs PySem.F.sub_dict_dict
    rw [if_neg (by decide)]
    apply wpAny_bind; apply wpAny_pure; apply wpAny_bind; apply wpAny_pure
    apply wpAny_bind; apply samePairsP na nb Da Db fun _ => hit
    exact wpAny_pure ⟨_, rfl, (fun x => nomatch x), by simpa [len] using fin⟩) (PySem.F.args_dict_ne_2 _ _)) un
end
section
variable {X : Cx}
def rNeV (K : PySem.W.Frag) : R2 := fun x y H Q => ∃ n a b ks ls, n ≤ 60 ∧ x = .ref a ∧ y = .ref b ∧ H a = some (.dK ks) ∧ H b = some (.dK ls) ∧ ks.length = ls.length ∧ (∀ p ∈ ks, ∃ u, valV ls p.1 = some u ∧ EqV K H n p.2 u) ∧ Q (.bl false) H
theorem op_neV (hu : X.A.units + 64 < cLine) : OpR X (compareOp .NotEq) (rNeV X.K) := by
  intro pins s σ H x y v u Q I rx ry h
  obtain ⟨n, a, b, ks, ls, hn, rfl, rfl, ea, eb, hlen, hp, q⟩ := h
  cases (show v = Value.ref a from rx)
  cases (show u = Value.ref b from ry)
  obtain ⟨_, na, va, ra, da⟩ := (show ObjOk X.prog X.w H s.heap a (.dK ks) from I.hok a _ ea)
  obtain ⟨_, nb, vb, rb, db⟩ := (show ObjOk X.prog X.w H s.heap b (.dK ls) from I.hok b _ eb)
  exact ne_dicts na nb da db (by omega) (hits_run (eqV_run I n X.A.in1 (by show X.A.units + 1 + n < cLine; omega)) rb ra hp) (by rw [← ra.length, ← rb.length]; exact hlen) ⟨.bl false, H, I, rfl, q⟩
end
/-! ### the law's dicts: field 3 and pages 1 to 4 -/
abbrev ME := Addr × Int × (Int → List Int)
def kd (f : Int) (ad : Int → Addr) : List (Key × V) := [(.inl 0, .int f), (.inl 1, .ref (ad 1)), (.inl 2, .ref (ad 2)), (.inl 3, .ref (ad 3)), (.inl 4, .ref (ad 4))]
theorem kd_0 (f v : Int) (ad : Int → Addr) : putK (kd f ad) (.inl 0) (.int v) = kd v ad := rfl
theorem kd_n (f : Int) (ad : Int → Addr) {n : Int} (h0 : 1 ≤ n) (h1 : n ≤ 4) (a : Addr) : putK (kd f ad) (.inl n) (.ref a) = kd f fun k => if k = n then a else ad k := by
  rcases (by omega : n = 1 ∨ n = 2 ∨ n = 3 ∨ n = 4) with rfl | rfl | rfl | rfl <;> rfl
def Pg4 (H : Hp) (ad : Int → Addr) (pg : Int → List Int) : Prop := ∀ n, 1 ≤ n → n ≤ 4 → H (ad n) = some (.lst ((pg n).map V.int))
def Md (H : Hp) (O : Addr → Prop) (st : Addr) (x : ME) : Prop := ∃ ad, H x.1 = some (.dK (kd x.2.1 ad)) ∧ ¬ O x.1 ∧ x.1 ≠ st ∧ Pg4 H ad x.2.2 ∧ ∀ n, 1 ≤ n → n ≤ 4 → ¬ O (ad n) ∧ ad n ≠ st
section
variable {H H' : Hp} {O O' F : Addr → Prop} {st a b : Addr} {x : ME}
theorem Md.off (h : Md H O st x) (k : Kp F H H') (n : ∀ b, F b → O b ∨ b = st) (g : ∀ b, O' b → O b ∨ H b = none) : Md H' O' st x := by
  obtain ⟨ad, h1, h2, h3, h4, h5⟩ := h
  have no : ∀ {b o}, H b = some o → ¬ O b → b ≠ st → ¬ F b := fun e h2 h3 z => (n _ z).elim h2 h3
  have nO : ∀ {b o}, H b = some o → ¬ O b → ¬ O' b := fun e h2 z => by
    rcases g _ z with y | y
    · exact h2 y
    · rw [e] at y; cases y
  exact ⟨ad, k.get h1 (no h1 h2 h3), nO h1 h2, h3, fun m a b => k.get (h4 m a b) (no (h4 m a b) (h5 m a b).1 (h5 m a b).2), fun m a b => ⟨nO (h4 m a b) (h5 m a b).1, (h5 m a b).2⟩⟩
theorem Md.other {m : Addr} {ks : List (Key × V)} (h : Md H O st x) (k : Kp (F1 m) H H') (hm : H m = some (.dK ks)) (n : x.1 ≠ m) : Md H' O st x := by
  obtain ⟨ad, h1, h2, h3, h4, h5⟩ := h
  exact ⟨ad, k.get h1 n, h2, h3, fun j a b => k.get (h4 j a b) (fun z => by have y := h4 j a b; rw [show ad j = m from z, hm] at y; cases y), h5⟩
theorem Md.mono (h : Md H O st x) (g : ∀ b, O' b → O b) : Md H O' st x := by
  obtain ⟨ad, h1, h2, h3, h4, h5⟩ := h
  exact ⟨ad, h1, fun z => h2 (g _ z), h3, h4, fun m a b => ⟨fun z => (h5 m a b).1 (g _ z), (h5 m a b).2⟩⟩
end
theorem x_neM {K : PySem.W.Frag} {H : Hp} {Q : VK} {a b : Addr} {f : Int} {ad ad' : Int → Addr} {pg : Int → List Int} (ha : H a = some (.dK (kd f ad))) (hb : H b = some (.dK (kd f ad'))) (h1 : Pg4 H ad pg) (h2 : Pg4 H ad' pg) (q : Q (.bl false) H) : rNeV K (.ref a) (.ref b) H Q := by
  have pr : ∀ l : List Int, Paired (EqV K H 1) (l.map V.int) (l.map V.int) := fun l => by
    induction l with
    | nil => exact .nil
    | cons x l ih => exact .cons (.inl ⟨rfl, rfl⟩) ih
  have ls : ∀ n, 1 ≤ n → n ≤ 4 → EqV K H 2 (.ref (ad n)) (.ref (ad' n)) := fun n n1 n2 =>
    .inr (.inr (.inl ⟨_, _, _, _, rfl, rfl, SqL.of (h1 n n1 n2), SqL.of (h2 n n1 n2), pr _⟩))
  refine ⟨2, a, b, _, _, by decide, rfl, rfl, ha, hb, rfl, fun p hp => ?_, q⟩
  unfold kd at hp
  simp only [List.mem_cons, List.mem_nil_iff, or_false] at hp
  rcases hp with rfl | rfl | rfl | rfl | rfl
  · exact ⟨_, rfl, .inl ⟨rfl, rfl⟩⟩
  · exact ⟨_, rfl, ls 1 (by decide) (by decide)⟩
  · exact ⟨_, rfl, ls 2 (by decide) (by decide)⟩
  · exact ⟨_, rfl, ls 3 (by decide) (by decide)⟩
  · exact ⟨_, rfl, ls 4 (by decide) (by decide)⟩
/-! ### the worlds: with a pager, with the device alone -/
structure WP (c : Cl) (K : PySem.W.Frag) (H : Hp) (st sc p q : Addr) (O Od : Addr → Prop) (s : PgS) (MM : List ME) : Prop where
  dr : Dr K H st sc
  pg : PagAt c H p q O Od s
  s1 : ¬ O st
  md : ∀ x ∈ MM, Md H O st x
structure WD (c : Cl) (K : PySem.W.Frag) (H : Hp) (st sc q : Addr) (Od : Addr → Prop) (d : DevS) (MM : List ME) : Prop where
  dr : Dr K H st sc
  dv : DevAt c H q Od d
  s1 : ¬ Od st
  md : ∀ x ∈ MM, Md H Od st x
section
variable {c : Cl} {K : PySem.W.Frag} {H H' H1 : Hp} {st sc p p' q m : Addr} {O O' Od Od' : Addr → Prop} {s s' : PgS} {d d' : DevS} {MM MM' : List ME}
theorem WP.sub (h : WP c K H st sc p q O Od s MM) (g : ∀ x ∈ MM', x ∈ MM) : WP c K H st sc p q O Od s MM' := ⟨h.dr, h.pg, h.s1, fun x z => h.md x (g x z)⟩
theorem WP.pure (h : WP c K H st sc p q O Od s MM) (k : Kp F0 H H') : WP c K H' st sc p q O Od s MM :=
  ⟨h.dr.kp k id, h.pg.same k, h.s1, fun x z => (h.md x z).off k (fun _ z => z.elim) fun _ z => .inl z⟩
theorem WP.draw (h : WP c K H st sc p q O Od s MM) (k : Kp (F1 st) H H') (dr : Dr K H' st sc) : WP c K H' st sc p q O Od s MM :=
  ⟨dr, h.pg.off k fun b z => by rw [z]; exact h.s1, h.s1, fun x z => (h.md x z).off k (fun _ z => .inr z) fun _ z => .inl z⟩
theorem WP.pager (h : WP c K H st sc p q O Od s MM) (P : PagAt c H' p q O' Od' s') (w : Stp O O' H H') : WP c K H' st sc p q O' Od' s' MM := by
  obtain ⟨_, hst⟩ := h.dr.trk
  exact ⟨h.dr.kp w.kp h.s1, P, w.kp0 hst h.s1, fun x z => (h.md x z).off w.kp (fun _ z => .inl z) w.gr⟩
theorem WP.put {x : ME} {ks : List (Key × V)} (h : WP c K H st sc p q O Od s MM) (hm : H m = some (.dK ks)) (no : ¬ O m) (ns : m ≠ st) (n : ∀ x ∈ MM, x.1 ≠ m) (k : Kp (F1 m) H H') (hx : Md H' O st x) : WP c K H' st sc p q O Od s (x :: MM) :=
  ⟨h.dr.kp k ns.symm, h.pg.off k fun b z => by rw [z]; exact no, h.s1, fun y z => by
    rcases List.mem_cons.mp z with z | z
    · rw [z]; exact hx
    · exact (h.md y z).other k hm (n y z)⟩
theorem WP.dev (h : WP c K H st sc p q O Od s MM) : WD c K H st sc q Od s.dev MM :=
  have o := h.pg.dv.2
  ⟨h.dr, h.pg.dv.1, fun z => h.s1 (o _ z), fun x z => (h.md x z).mono o⟩
theorem WD.sub (h : WD c K H st sc q Od d MM) (g : ∀ x ∈ MM', x ∈ MM) : WD c K H st sc q Od d MM' := ⟨h.dr, h.dv, h.s1, fun x z => h.md x (g x z)⟩
theorem WD.pure (h : WD c K H st sc q Od d MM) (k : Kp F0 H H') : WD c K H' st sc q Od d MM :=
  ⟨h.dr.kp k id, h.dv.same k, h.s1, fun x z => (h.md x z).off k (fun _ z => z.elim) fun _ z => .inl z⟩
theorem WD.draw (h : WD c K H st sc q Od d MM) (k : Kp (F1 st) H H') (dr : Dr K H' st sc) : WD c K H' st sc q Od d MM :=
  ⟨dr, h.dv.off k fun b z => by rw [z]; exact h.s1, h.s1, fun x z => (h.md x z).off k (fun _ z => .inr z) fun _ z => .inl z⟩
theorem WD.step (h : WD c K H st sc q Od d MM) (V : DevAt c H' q Od' d') (w : Stp Od Od' H H') : WD c K H' st sc q Od' d' MM := by
  obtain ⟨_, hst⟩ := h.dr.trk
  exact ⟨h.dr.kp w.kp h.s1, V, w.kp0 hst h.s1, fun x z => (h.md x z).off w.kp (fun _ z => .inl z) w.gr⟩
theorem WD.opened (h : WD c K H st sc q Od d MM) (k : Kp F0 H H1) (hp : H p' = none) (P : PagAt c H' p' q O' Od' s') (w : Stp (fun b => b = p' ∨ Od b) O' H1 H') : WP c K H' st sc p' q O' Od' s' MM := by
  have kz : Kp Od H H' := fun b o hb n => by
    refine w.kp b o (k.get hb id) fun z => ?_
    rcases z with z | z
    · rw [z, hp] at hb; cases hb
    · exact n z
  have gr : ∀ b, O' b → Od b ∨ H b = none := fun b z => by
    rcases w.gr b z with (y | y) | y
    · exact .inr (by rw [y]; exact hp)
    · exact .inl y
    · exact .inr (k.free y id)
  obtain ⟨_, hst⟩ := h.dr.trk
  refine ⟨h.dr.kp kz h.s1, P, fun z => ?_, fun x z => (h.md x z).off kz (fun _ z => .inl z) gr⟩
  rcases gr _ z with y | y
  · exact h.s1 y
  · rw [hst] at y; cases y
end
section
variable {P : Program} {w : World} {K : PySem.W.Frag} {mg : Str → Option Value} {base : Heap} {c : Cl}
def sp__law_shown (c : Cl) : Sp := fun vs H Q _ => ∃ (p q : Addr) (O Od : Addr → Prop) (s : PgS), vs = [.ref p] ∧ PagAt c H p q O Od s ∧ ∀ a H' ad, Kp F0 H H' → H a = none → H' a = some (.dK (kd (fld s 3) ad)) → Pg4 H' ad (gpg s) → Q (.ref a) H'
theorem ok__law_shown (T : Txt K mg c) : GF P w K mg base CX0 5 "_law_shown" (sp__law_shown c) := by
  obtain ⟨f, fd, F, gm⟩ := T.f__law_shown
  have tc_Pager := T.cl_Pager; have tn_Pager_device := T.n_Pager_device; have tn_Pager_committed := T.n_Pager_committed; have tn_Pager_dirty := T.n_Pager_dirty
  refine ⟨f, fd, ["_law_pager"], F.ok sc__law_shown ?_ (fun cdv A outer s0 H vs Q E hr h => ?_), gm, F.kp, (F.binds (ps := ["_law_pager"]) fun _ _ _ _ _ _ us hl => match us, hl with | [_], _ => rfl)⟩
  · rintro vs H Q E ⟨_, _, _, _, _, rfl, _⟩
    rfl
  · obtain ⟨p, q, O, Od, s, rfl, hP, k⟩ := h
    obtain ⟨⟨dx, a1, a2, y1, y2, DP⟩, _⟩ := id hP
    have ho := DP.o
    refine ⟨_, (pss_cons (ps_set (i := 1) sc__law_shown.nd rfl (Or.inl rfl) (pe_disp (pps_cons pe_int (pe_gm T.cl_Pager (ok_Pager_field T) (pv 0) (hr.mono (by decide)) pass0S (pa_cons pe_int pa_nil)) pps_nil) (by rfl) (by rfl) (fun z => by cases z) (by decide)))
      (pss_cons (ps_for PassesOwn.never rfl (pi_range2 (by rfl) T.z_range (pa_cons pe_int (pa_cons pe_int pa_nil))) (pg_name (i := 2) sc__law_shown.nd rfl (Or.inl rfl)) (pss_one (ps_dput (hu_of hr) (pv 1) (pv 2) (pe_gm T.cl_Pager (ok_Pager_read T) (pv 0) (hr.mono (by decide)) pass0S (pa_cons (pv 2) pa_nil)) rfl)))
      (pss_one (ps_ret (pv 1))))), ?_⟩
    walk_at "cx"
    walk_at "rd"
    intro a ha
    have kd0 : Kp F0 H (upd H a (.dK [])) := Kp.new ha
    have ho1 := kd0.get ho id
    refine x_pc ?_
    walk_at "rd"
    refine ⟨p, q, O, Od, s, 3, rfl, by decide, hP.same kd0, fun H1 k1 => ?_⟩
    have a1' : H1 a = some (.dK []) := k1.get upd_same id
    refine x_pn ?_
    refine ⟨a1', [(.inl 0, .int (fld s 3))], rfl, Nat.le_of_ble_eq_true rfl, ?_⟩
    rw [show mergeK [] [((.inl 0 : Key), V.int (fld s 3))] = [(.inl 0, .int (fld s 3))] by rfl]
    have k02 : Kp F0 H (upd H1 a (.dK [(.inl 0, .int (fld s 3))])) := fun b o hb _ => by
      rw [upd_ne (ne_of_none hb ha)]; exact k1.get (kd0.get hb id) id
    have e2 : (upd H1 a (.dK [(.inl 0, .int (fld s 3))]) : Hp) a = some (.dK [(.inl 0, .int (fld s 3))]) := upd_same
    generalize upd H1 a (.dK [(.inl 0, .int (fld s 3))]) = H2 at k02 e2
    walk_at "rd"
    refine wfor Wk.rng (fun i σ H' => ∃ u ad, σ = [some (.ref p), some (.ref a), u] ∧ Kp F0 H H' ∧ H' a = some (.dK ((kd (fld s 3) ad).take (i + 1))) ∧ i ≤ 4 ∧ ∀ n : Int, 1 ≤ n → n ≤ i → H' (ad n) = some (.lst ((gpg s n).map V.int)))
      ⟨none, fun _ => a, rfl, k02, e2, by decide, fun n n1 n2 => by omega⟩ (fun _ _ _ _ => trivial) ?_ ?_
    · rintro i x σ H3 ex ⟨u, ad, rfl, k3, e3, hi4, h4⟩
      obtain ⟨hi, rfl⟩ := rgl_at ex
      have hi' : i < 4 := hi
      have ho3 := k3.get ho id
      walk_at "rd"
      refine ⟨p, q, O, Od, s, 1 + (i : Int), rfl, hP.same k3, fun b H4 hb k4 e4 => ?_⟩
      walk_at "rd"
      refine x_dpI (k4.get e3 id) (by rw [List.length_take]; show min _ 5 < _; omega) fun H5 e5 k5 => ?_
      refine ⟨_, fun n => if n = 1 + (i : Int) then b else ad n, rfl, fun b' o' hb' _ => k5.get (k4.get (k3.get hb' id) id) (ne_of_none hb' ha), ?_, hi', fun n n1 n2 => ?_⟩
      · rw [e5]
        rcases (by omega : i = 0 ∨ i = 1 ∨ i = 2 ∨ i = 3) with rfl | rfl | rfl | rfl <;> rfl
      · have nba : b ≠ a := (ne_of_none e3 hb).symm
        show H5 (if n = 1 + (i : Int) then b else ad n) = _
        by_cases q : n = 1 + (i : Int)
        · rw [if_pos q, q]; exact k5.get e4 nba
        · rw [if_neg q]
          have z := h4 n n1 (by omega)
          exact k5.get (k4.get z id) fun y => by rw [show ad n = a from y, e3] at z; cases z
    · rintro σ H3 ⟨u, ad, rfl, k3, e3, _, h4⟩
      walk_at "rd"
      exact k a H3 ad k3 ha e3 fun n n1 n2 => h4 n n1 (by show n ≤ ((4 : Nat) : Int); omega)
def sp__law_crash (c : Cl) (K : PySem.W.Frag) : Sp := fun vs H Q _ => ∃ (st sc q : Addr) (Od : Addr → Prop) (d : DevS) (MM : List ME), vs = [.ref st, .ref sc, .ref q] ∧ WD c K H st sc q Od d MM ∧ Sml d ∧ d.writes.length ≤ 100 ∧ d.steps.length ≤ 100000 ∧
  ∀ H' Od' fs (kept : Nat), kept ≤ d.steps.length → WD c K H' st sc q Od' (dCrash fs kept d) MM → Q (.int kept) H'
theorem ok__law_crash (T : Txt K mg c) : GF P w K mg base CX0 3 "_law_crash" (sp__law_crash c K) := by
  obtain ⟨f, fd, F, gm⟩ := T.f__law_crash
  have tc_Device := T.cl_Device; have tn_Device_pages := T.n_Device_pages; have tn_Device_page_writes := T.n_Device_page_writes; have tn_Device_durable_log := T.n_Device_durable_log; have tn_Device_log_steps := T.n_Device_log_steps; have tn_Device_done := T.n_Device_done; have tn_Device_most := T.n_Device_most
  refine ⟨f, fd, ["_law_state", "_law_script", "_law_device"], F.ok sc__law_crash ?_ (fun cdv A outer s0 H vs Q E hr h => ?_), gm, F.kp, (F.binds (ps := ["_law_state", "_law_script", "_law_device"]) fun _ _ _ _ _ _ us hl => match us, hl with | [_, _, _], _ => rfl)⟩
  · rintro vs H Q E ⟨_, _, _, _, _, _, rfl, _⟩
    rfl
  · obtain ⟨st, sc, q, Od, d, MM, rfl, W, sm, nw, ns, k⟩ := h
    obtain ⟨⟨dz, c1, c2, c3, c4, kvs, ws, DD⟩, _⟩ := id W.dv
    have hq := DD.o
    refine ⟨_, (pss_cons (ps_asg (pe_gm0 T.cl_Device (ok_Device_pending T) (pv 2) (hr.mono (by decide)) pass0S) (pg_kT rfl (pg_tup (n := 2) rfl (pgs_cons (pg_name (i := 3) sc__law_crash.nd rfl (Or.inl rfl)) (pgs_cons (pg_name (i := 4) sc__law_crash.nd rfl (Or.inl rfl)) pgs_nil)))))
      (pss_cons (ps_setLc (i := 5) (own := [("_law_k", 7)]) (g := (gName 7)) (tt := tYes) rfl sc__law_crash.nd rfl rfl (sw_true rfl rfl rfl (by decide +kernel)) (pi_range1 (by rfl) T.z_range (pa_cons (pv 3) pa_nil)) (blkOk_by (N := ["_law_state", "_law_script", "_law_device", "_law_writes", "_law_steps", "_law_fates", "_law_kept", "_law_k"]) (sc := defScope s__law_crash) (by decide +kernel)) (fun _ _ _ _ _ => (pg_name (i := 7) sc__law_crash.nd rfl (Or.inl rfl))) (fun _ _ _ _ _ => pts_nil) (fun _ _ _ _ _ => (pe_g (ok__law_draw T) (hr.mono (by decide)) pass0S (pa_cons (pv 0) (pa_cons (pv 1) (pa_cons pe_int pa_nil))))))
      (pss_cons (ps_set (i := 6) sc__law_crash.nd rfl (Or.inl rfl) (pe_ix (r := rIxL K) ix_list (pe_lst (pa_cons pe_int (pa_cons (pv 4) (pa_cons (pe_g (ok__law_draw T) (hr.mono (by decide)) pass0S (pa_cons (pv 0) (pa_cons (pv 1) (pa_cons (pe_op op_add (pv 4) pe_int) pa_nil)))) pa_nil)))) (pe_g (ok__law_draw T) (hr.mono (by decide)) pass0S (pa_cons (pv 0) (pa_cons (pv 1) (pa_cons pe_int pa_nil)))) (fun _ _ => rfl)))
      (pss_cons (ps_expr (pe_gm T.cl_Device (ok_Device_crash T) (pv 2) (hr.mono (by decide)) pass0S (pa_cons (pv 5) (pa_cons (pv 6) pa_nil))))
      (pss_one (ps_ret (pv 6))))))), ?_⟩
    walk_at "cx"
    walk_at "rd"
    refine ⟨q, Od, d, rfl, W.dv, fun t1 H1 k1 e1 => ?_⟩
    have W1 := W.pure k1
    walk_at "rd"
    obtain ⟨_, hst1⟩ := W1.dr.trk
    refine wlc Wk.rng (F1 st) (fun H' => Dr K H' st sc) (fun i acc => ∃ ns : List Int, acc = ns.map V.int ∧ ns.length = i) (fun b e => by rw [e, hst1]; exact fun z => by cases z) (by rw [rgl_len]; omega) (fun _ _ _ => trivial)
      ⟨[], rfl, rfl⟩ W1.dr (fun D hD H' o m q => q.off (ne_of_none hst1 hD) m) (fun i x acc H' R R0 ex pv dr kp hR _ => ?_) (fun fa H2 acc hfa hfa2 pv d2 k2 => ?_)
    · obtain ⟨ns, rfl, hl⟩ := pv
      walk_at "rd"
      refine ⟨rfl, ?_⟩
      walk_at "rd"
      refine ⟨st, sc, 3, rfl, by decide, by decide, dr, fun d' H'' d0 d1 dr' kp' => hR _ _ kp' dr' ⟨ns ++ [d'], by rw [List.map_append]; rfl, by rw [List.length_append, hl]; rfl⟩⟩
    · obtain ⟨fs, rfl, lf⟩ := pv
      have W2 := W1.draw k2 d2
      have nsf : st ≠ fa := ne_of_none hst1 hfa
      have fod := W1.dv.fresh hfa
      walk_at "rd"
      refine ⟨st, sc, _, rfl, by omega, by omega, W2.dr, fun kk H3 a0 a1 dr3 k3 => ?_⟩
      have W3 := W2.draw k3 dr3
      have f3 := k3.get hfa2 nsf.symm
      walk_at "rd"
      refine x_newL fun l1 H4 hl1 k4 e4 => ?_
      have W4 := W3.pure k4
      obtain ⟨_, hst3⟩ := W3.dr.trk
      walk_at "rd"
      refine ⟨st, sc, 3, rfl, by decide, by decide, W4.dr, fun y H5 b0 b1 dr5 k5 => ?_⟩
      have W5 := W4.draw k5 dr5
      have f5 := k5.get (k4.get f3 id) nsf.symm
      have e5 := k5.get e4 (ne_of_none hst3 hl1).symm
      obtain ⟨kept, hk, hv⟩ : ∃ kept : Nat, kept ≤ d.steps.length ∧ atI [V.int 0, .int d.steps.length, .int kk] y = some (.int kept) := by
        rcases (by omega : y = 0 ∨ y = 1 ∨ y = 2) with rfl | rfl | rfl
        · exact ⟨0, Nat.zero_le _, rfl⟩
        · exact ⟨_, Nat.le_refl _, rfl⟩
        · exact ⟨kk.toNat, by omega, by rw [Int.toNat_of_nonneg a0]; rfl⟩
      refine x_ixL (SqL.of e5) hv ?_
      obtain ⟨⟨dz, c1, c2, c3, c4, kvs, ws, DD5⟩, _⟩ := id W5.dv
      have hq5 := DD5.o
      walk_at "rd"
      refine ⟨q, Od, d, fa, fs, kept, rfl, by omega, W5.dv, SqL.of f5, fod, sm, fun H6 Od6 V6 t6 => ?_⟩
      walk_at "rd"
      exact k H6 Od6 fs kept hk (W5.step V6 t6)
theorem okH__law_crash (T : Txt K mg c) : GFH P w K mg base 3 "_law_crash" (sp__law_crash c K) := by
  obtain ⟨f, fd, F, gm⟩ := T.f__law_crash
  have tc_Device := T.cl_Device; have tn_Device_pages := T.n_Device_pages; have tn_Device_page_writes := T.n_Device_page_writes; have tn_Device_durable_log := T.n_Device_durable_log; have tn_Device_log_steps := T.n_Device_log_steps; have tn_Device_done := T.n_Device_done; have tn_Device_most := T.n_Device_most
  refine ⟨f, fd, ["_law_state", "_law_script", "_law_device"], okH F sc__law_crash ?_ (fun cdv A outer s0 H vs Q E pp hc hr h => ?_), gm, F.kp, (F.binds (ps := ["_law_state", "_law_script", "_law_device"]) fun _ _ _ _ _ _ us hl => match us, hl with | [_, _, _], _ => rfl)⟩
  · rintro vs H Q E ⟨_, _, _, _, _, _, rfl, _⟩
    rfl
  · obtain ⟨st, sc, q, Od, d, MM, rfl, W, sm, nw, ns, k⟩ := h
    obtain ⟨⟨dz, c1, c2, c3, c4, kvs, ws, DD⟩, _⟩ := id W.dv
    have hq := DD.o
    refine ⟨_, (pss_cons (ps_asg (pe_gmH0 T.cl_Device (okH_Device_pending T) (pv 2) (hr.mono (by decide)) hc) ((pg_tupH (n := 2) rfl hc (pgs_cons (pg_name (i := 3) sc__law_crash.nd rfl (Or.inl rfl)) (pgs_cons (pg_name (i := 4) sc__law_crash.nd rfl (Or.inl rfl)) pgs_nil)))))
      (pss_cons (ps_setLcH (i := 5) (own := [("_law_k", 7)]) (g := (gName 7)) hc sc__law_crash.nd rfl rfl (sw_true rfl rfl rfl (by decide +kernel)) (L2H.pi_range1H (by rfl) T.z_range (pa_cons (pv 3) pa_nil)) (blkOk_by (N := ["_law_state", "_law_script", "_law_device", "_law_writes", "_law_steps", "_law_fates", "_law_kept", "_law_k"]) (sc := defScope s__law_crash) (by decide +kernel)) (fun _ _ _ _ _ => (pg_name (i := 7) sc__law_crash.nd rfl (Or.inl rfl))) (fun _ _ _ _ _ => (pe_gH (okH__law_draw T) (hr.mono (by decide)) (blkH_hot hc) (pa_cons (pv 0) (pa_cons (pv 1) (pa_cons pe_int pa_nil))))))
      (pss_cons (ps_set (i := 6) sc__law_crash.nd rfl (Or.inl rfl) (pe_ix (r := rIxL K) ix_list (pe_lst (pa_cons pe_int (pa_cons (pv 4) (pa_cons (pe_gH (okH__law_draw T) (hr.mono (by decide)) hc (pa_cons (pv 0) (pa_cons (pv 1) (pa_cons (pe_op op_add (pv 4) pe_int) pa_nil)))) pa_nil)))) (pe_gH (okH__law_draw T) (hr.mono (by decide)) hc (pa_cons (pv 0) (pa_cons (pv 1) (pa_cons pe_int pa_nil)))) (fun _ _ => rfl)))
      (pss_cons (ps_expr (pe_gmH T.cl_Device (okH_Device_crash T) (pv 2) (hr.mono (by decide)) hc (pa_cons (pv 5) (pa_cons (pv 6) pa_nil))))
      (pss_one (ps_ret (pv 6))))))), ?_⟩
    walk_at "cx"
    walk_at "rd"
    refine ⟨q, Od, d, rfl, W.dv, fun t1 H1 k1 e1 => ?_⟩
    have W1 := W.pure k1
    walk_at "rd"
    obtain ⟨_, hst1⟩ := W1.dr.trk
    refine wlc Wk.rng (F1 st) (fun H' => Dr K H' st sc) (fun i acc => ∃ ns : List Int, acc = ns.map V.int ∧ ns.length = i) (fun b e => by rw [e, hst1]; exact fun z => by cases z) (by rw [rgl_len]; omega) (fun _ _ _ => trivial)
      ⟨[], rfl, rfl⟩ W1.dr (fun D hD H' o m q => q.off (ne_of_none hst1 hD) m) (fun i x acc H' R R0 ex pv dr kp hR _ => ?_) (fun fa H2 acc hfa hfa2 pv d2 k2 => ?_)
    · obtain ⟨ns, rfl, hl⟩ := pv
      walk_at "rd"
      refine ⟨rfl, ?_⟩
      walk_at "rd"
      refine ⟨st, sc, 3, rfl, by decide, by decide, dr, fun d' H'' d0 d1 dr' kp' => hR _ _ kp' dr' ⟨ns ++ [d'], by rw [List.map_append]; rfl, by rw [List.length_append, hl]; rfl⟩⟩
    · obtain ⟨fs, rfl, lf⟩ := pv
      have W2 := W1.draw k2 d2
      have nsf : st ≠ fa := ne_of_none hst1 hfa
      have fod := W1.dv.fresh hfa
      walk_at "rd"
      refine ⟨st, sc, _, rfl, by omega, by omega, W2.dr, fun kk H3 a0 a1 dr3 k3 => ?_⟩
      have W3 := W2.draw k3 dr3
      have f3 := k3.get hfa2 nsf.symm
      walk_at "rd"
      refine x_newL fun l1 H4 hl1 k4 e4 => ?_
      have W4 := W3.pure k4
      obtain ⟨_, hst3⟩ := W3.dr.trk
      walk_at "rd"
      refine ⟨st, sc, 3, rfl, by decide, by decide, W4.dr, fun y H5 b0 b1 dr5 k5 => ?_⟩
      have W5 := W4.draw k5 dr5
      have f5 := k5.get (k4.get f3 id) nsf.symm
      have e5 := k5.get e4 (ne_of_none hst3 hl1).symm
      obtain ⟨kept, hk, hv⟩ : ∃ kept : Nat, kept ≤ d.steps.length ∧ atI [V.int 0, .int d.steps.length, .int kk] y = some (.int kept) := by
        rcases (by omega : y = 0 ∨ y = 1 ∨ y = 2) with rfl | rfl | rfl
        · exact ⟨0, Nat.zero_le _, rfl⟩
        · exact ⟨_, Nat.le_refl _, rfl⟩
        · exact ⟨kk.toNat, by omega, by rw [Int.toNat_of_nonneg a0]; rfl⟩
      refine x_ixL (SqL.of e5) hv ?_
      obtain ⟨⟨dz, c1, c2, c3, c4, kvs, ws, DD5⟩, _⟩ := id W5.dv
      have hq5 := DD5.o
      walk_at "rd"
      refine ⟨q, Od, d, fa, fs, kept, rfl, by omega, W5.dv, SqL.of f5, fod, sm, fun H6 Od6 V6 t6 => ?_⟩
      walk_at "rd"
      exact k H6 Od6 fs kept hk (W5.step V6 t6)
end
def RM (v : Int → List Int) (f : Int) (pg : Int → List Int) : Prop := vf v 3 = f ∧ ∀ n, 1 ≤ n → n ≤ 4 → v n = pg n
theorem RM.put {v : Int → List Int} {f : Int} {pg : Int → List Int} {n : Int} {ds : List Int} (h : RM v f pg) (h0 : 1 ≤ n) : RM (vput v n ds) f (vput pg n ds) := by
  refine ⟨?_, fun k k0 k1 => ?_⟩
  · rw [← h.1]
    unfold vf vput
    rw [if_neg (by omega)]
  · unfold vput
    split
    · rfl
    · exact h.2 k k0 k1
theorem aput_keys (l : List (Int × List Int)) (n : Int) (ds : List Int) : (aput l n ds).map (·.1) = if (l.map (·.1)).any (fun k => decide (k = n)) = true then l.map (·.1) else l.map (·.1) ++ [n] := by
  unfold aput
  rw [List.any_map]
  show (if (l.any fun q => decide (q.1 = n)) = true then _ else _ : List (Int × List Int)).map (·.1) = if (l.any fun q => decide (q.1 = n)) = true then _ else _
  split
  · rw [List.map_map]
    refine List.map_congr_left fun q _ => ?_
    show (if q.1 = n then (q.1, ds) else q).1 = q.1
    split <;> rfl
  · rw [List.map_append]; rfl
theorem inV_ints (n : Int) (ks : List Int) : inV (.int n) (ks.map V.int) = ks.any fun k => decide (k = n) := by
  unfold inV
  rw [List.any_map]
  congr 1
theorem flat_ints (ks : List Int) : (ks.map V.int).all flatV = true := by
  rw [List.all_map]; exact List.all_eq_true.mpr fun _ _ => rfl
/-- a world with a list of its own -/
structure WB (c : Cl) (K : PySem.W.Frag) (H : Hp) (st sc p q b : Addr) (O Od : Addr → Prop) (s : PgS) (MM : List ME) (ns : List Int) : Prop where
  dr : Dr K H st sc
  pg : PagAt c H p q O Od s
  s1 : ¬ O st
  b0 : H b = some (.lst (ns.map V.int))
  b1 : ¬ O b
  b2 : b ≠ st
  md : ∀ x ∈ MM, Md H (fun z => O z ∨ z = b) st x
section
variable {c : Cl} {K : PySem.W.Frag} {H H' H1 : Hp} {st sc p p' q m b : Addr} {O O' Od Od' : Addr → Prop} {s s' : PgS} {MM MM' : List ME} {ns ns' : List Int}
theorem WB.of (h : WP c K H st sc p q O Od s MM) (hb : H b = none) (k : Kp F0 H H') (e : H' b = some (.lst (ns.map V.int))) : WB c K H' st sc p q b O Od s MM ns :=
  ⟨h.dr.kp k id, h.pg.same k, h.s1, e, h.pg.fresh hb, h.dr.new hb, fun x z => (h.md x z).off k (fun _ z => z.elim) fun y z => z.imp id fun z => by rw [z]; exact hb⟩
theorem WB.wp (h : WB c K H st sc p q b O Od s MM ns) : WP c K H st sc p q O Od s MM := ⟨h.dr, h.pg, h.s1, fun x z => (h.md x z).mono fun _ z => .inl z⟩
theorem WB.pure (h : WB c K H st sc p q b O Od s MM ns) (k : Kp F0 H H') : WB c K H' st sc p q b O Od s MM ns :=
  ⟨h.dr.kp k id, h.pg.same k, h.s1, k.get h.b0 id, h.b1, h.b2, fun x z => (h.md x z).off k (fun _ z => z.elim) fun _ z => .inl z⟩
theorem WB.draw (h : WB c K H st sc p q b O Od s MM ns) (k : Kp (F1 st) H H') (dr : Dr K H' st sc) : WB c K H' st sc p q b O Od s MM ns :=
  ⟨dr, h.pg.off k fun b z => by rw [z]; exact h.s1, h.s1, k.get h.b0 h.b2, h.b1, h.b2, fun x z => (h.md x z).off k (fun _ z => .inr z) fun _ z => .inl z⟩
theorem WB.pager (h : WB c K H st sc p q b O Od s MM ns) (P : PagAt c H' p q O' Od' s') (w : Stp O O' H H') : WB c K H' st sc p q b O' Od' s' MM ns := by
  obtain ⟨_, hst⟩ := h.dr.trk
  exact ⟨h.dr.kp w.kp h.s1, P, w.kp0 hst h.s1, w.kp.get h.b0 h.b1, w.kp0 h.b0 h.b1, h.b2, fun x z => (h.md x z).off w.kp (fun _ z => .inl (.inl z)) fun y z => by
    rcases z with z | z
    · rcases w.gr y z with z | z
      · exact .inl (.inl z)
      · exact .inr z
    · exact .inl (.inr z)⟩
theorem WB.app (h : WB c K H st sc p q b O Od s MM ns) (k : Kp (F1 b) H H') (e : H' b = some (.lst (ns'.map V.int))) : WB c K H' st sc p q b O Od s MM ns' :=
  ⟨h.dr.kp k h.b2.symm, h.pg.off k fun b z => by rw [z]; exact h.b1, h.s1, e, h.b1, h.b2, fun x z => (h.md x z).off k (fun _ z => .inl (.inr z)) fun _ z => .inl z⟩
theorem WB.put {x y : ME} {ks : List (Key × V)} (h : WB c K H st sc p q b O Od s (y :: MM) ns) (hm : H y.1 = some (.dK ks)) (n : ∀ x ∈ MM, x.1 ≠ y.1) (k : Kp (F1 y.1) H H') (hx : Md H' (fun z => O z ∨ z = b) st x) : WB c K H' st sc p q b O Od s (x :: MM) ns := by
  obtain ⟨_, _, no, ns, _⟩ := h.md y (by simp)
  exact ⟨h.dr.kp k ns.symm, h.pg.off k fun b z => by rw [z]; exact fun w => no (.inl w), h.s1, k.get h.b0 fun z => no (.inr z.symm), h.b1, h.b2, fun w z => by
    rcases List.mem_cons.mp z with z | z
    · rw [z]; exact hx
    · exact (h.md w (by simp [z])).other k hm (n w z)⟩
end
section
variable {P : Program} {w : World} {K : PySem.W.Frag} {mg : Str → Option Value} {base : Heap} {c : Cl}
def sp__law_change (c : Cl) (K : PySem.W.Frag) : Sp := fun vs H Q _ => ∃ (st sc p q m : Addr) (O Od : Addr → Prop) (s : PgS) (MM : List ME) (f : Int) (pg : Int → List Int) (tn i : Nat) (gs : List (List (Int × List Int))), vs = [.ref st, .ref sc, .ref p, .ref m, .int tn] ∧ WP c K H st sc p q O Od s ((m, f, pg) :: MM) ∧ (∀ x ∈ MM, x.1 ≠ m) ∧ C6 i s gs [] 0 ∧ i ≤ 100 ∧ RM (gpg s) f pg ∧ tn ≤ 1000 ∧ (s.dir.map (·.1) = [] ∨ s.dir.map (·.1) = [0]) ∧
  ∀ H' O' s' pg' b, WB c K H' st sc p q b O' Od s' ((m, (tn : Int) + 1, pg') :: MM) (skeys s'.dir) → s'.dev = s.dev → s'.com = s.com → C6 i s' gs [] 0 → s'.dir.length ≠ 0 → RM (gpg s') ((tn : Int) + 1) pg' → Q (.ref b) H'
theorem ok__law_change (T : Txt K mg c) : GF P w K mg base CX0 5 "_law_change" (sp__law_change c K) := by
  obtain ⟨f, fd, F, gm⟩ := T.f__law_change
  have tc_Pager := T.cl_Pager; have tn_Pager_device := T.n_Pager_device; have tn_Pager_committed := T.n_Pager_committed; have tn_Pager_dirty := T.n_Pager_dirty
  refine ⟨f, fd, ["_law_state", "_law_script", "_law_pager", "_law_model", "_law_turn"], F.ok sc__law_change ?_ (fun cdv A outer s0 H vs Q E hr h => ?_), gm, F.kp, (F.binds (ps := ["_law_state", "_law_script", "_law_pager", "_law_model", "_law_turn"]) fun _ _ _ _ _ _ us hl => match us, hl with | [_, _, _, _, _], _ => rfl)⟩
  · rintro vs H Q E ⟨_, _, _, _, _, _, _, _, _, _, _, _, _, _, rfl, _⟩
    rfl
  · obtain ⟨st, sc, p, q, m, O, Od, s, MM, fv, pg, tn, i, gs, rfl, W, nm, cc, hi, rm, ht, hd0, k⟩ := h
    have dl := cc.kd.len
    obtain ⟨⟨dx, a1, a2, y1, y2, DP⟩, _⟩ := id W.pg
    have ho := DP.o
    refine ⟨_, (pss_cons (ps_expr (pe_gm T.cl_Pager (ok_Pager_set_field T) (pv 2) (hr.mono (by decide)) pass0S (pa_cons pe_int (pa_cons (pe_op op_add (pv 4) pe_int) pa_nil))))
      (pss_cons (ps_dput (hu_of hr) (pv 3) pe_int (pe_op op_add (pv 4) pe_int) rfl)
      (pss_cons (ps_set (i := 5) sc__law_change.nd rfl (Or.inl rfl) (pe_lst (pa_cons pe_int pa_nil)))
      (pss_cons (ps_for PassesOwn.never rfl (pi_range1 (by rfl) T.z_range (pa_cons (pe_op op_add pe_int (pe_g (ok__law_draw T) (hr.mono (by decide)) pass0S (pa_cons (pv 0) (pa_cons (pv 1) (pa_cons pe_int pa_nil))))) pa_nil)) (pg_name (i := 6) sc__law_change.nd rfl (Or.inl rfl)) (pss_cons (ps_set (i := 7) sc__law_change.nd rfl (Or.inl rfl) (pe_op op_add pe_int (pe_g (ok__law_draw T) (hr.mono (by decide)) pass0S (pa_cons (pv 0) (pa_cons (pv 1) (pa_cons pe_int pa_nil))))))
      (pss_cons (ps_set (i := 8) sc__law_change.nd rfl (Or.inl rfl) (pe_op op_cat (pe_op op_cat (pe_op op_rep (pe_lst (pa_cons (pe_op op_add (pv 4) pe_int) pa_nil)) pe_int) (pe_op op_rep (pe_lst (pa_cons (pe_g (ok__law_draw T) (hr.mono (by decide)) pass0S (pa_cons (pv 0) (pa_cons (pv 1) (pa_cons pe_int pa_nil)))) pa_nil)) pe_int)) (pe_op op_rep (pe_lst (pa_cons (pe_g (ok__law_draw T) (hr.mono (by decide)) pass0S (pa_cons (pv 0) (pa_cons (pv 1) (pa_cons pe_int pa_nil)))) pa_nil)) pe_int)))
      (pss_cons (ps_expr (pe_gm T.cl_Pager (ok_Pager_write T) (pv 2) (hr.mono (by decide)) pass0S (pa_cons (pv 7) (pa_cons (pv 8) pa_nil))))
      (pss_cons (ps_dput (hu_of hr) (pv 3) (pv 7) (pv 8) rfl)
      (pss_one (ps_if (pt_cmpR (r := rIn K true) op_notIn_seq (pv 7) (pv 5) rfl) (pss_one (ps_expr (pe_kBM rfl (pe_bm PySem.F.plainAttrs_list PySem.F.slot_list_append PySem.F.type_list_append mt_append (pv 5) (pa_cons (pv 7) pa_nil))))) pss_nil)))))))
      (pss_one (ps_ret (pe_callB (r := rSortedI K) cr_sortedI (by rfl) T.z_sorted (by decide +kernel) (pa_cons (pv 5) pa_nil)))))))), ?_⟩
    walk_at "cx"
    walk_at "rd"
    refine ⟨p, q, O, Od, s, 3, (tn : Int) + 1, rfl, W.pg, by omega, by rw [cc.z]; decide, by rw [cc.z]; decide, fun H1 O1 P1 t1 => ?_⟩
    have W1 := W.pager P1 t1
    have c1 := cc.set (f := 3) (x := (tn : Int) + 1) (by decide)
    have rm1 : RM (gpg (setf 3 ((tn : Int) + 1) s)) ((tn : Int) + 1) pg := by
      rw [gpg_set]
      refine ⟨?_, fun n n0 n1 => ?_⟩
      · rw [vset_vf (by omega) (by omega) (by rw [cc.z]; omega), if_pos rfl]
      · unfold vset vput; rw [if_neg (by omega)]; exact rm.2 n n0 n1
    have kk1 : (setf 3 ((tn : Int) + 1) s).dir.map (·.1) = [0] := by
      show (aput s.dir 0 _).map (·.1) = _
      rw [aput_keys]
      rcases hd0 with e | e <;> rw [e] <;> rfl
    have es1 : (setf 3 ((tn : Int) + 1) s).dev = s.dev := rfl
    have es2 : (setf 3 ((tn : Int) + 1) s).com = s.com := rfl
    generalize setf 3 ((tn : Int) + 1) s = s1 at W1 c1 rm1 kk1 es1 es2
    obtain ⟨ad, hm, nmO, nms, p4, no4⟩ := W1.md _ (List.mem_cons_self ..)
    walk_at "rd"
    refine x_dpI hm (Nat.le_of_ble_eq_true rfl) fun H2 e2 k2 => ?_
    rw [kd_0] at e2
    have W2 := (W1.sub (MM' := MM) fun x z => List.mem_cons_of_mem _ z).put (x := (m, (tn : Int) + 1, pg)) hm nmO nms nm k2 ⟨ad, e2, nmO, nms, fun n n0 n1 => k2.get (p4 n n0 n1) (fun z => by have y := p4 n n0 n1; rw [show ad n = m from z, hm] at y; cases y), no4⟩
    walk_at "rd"
    refine x_newL fun b H3 hb k3 e3 => ?_
    have W3 : WB c K H3 st sc p q b O1 Od s1 ((m, (tn : Int) + 1, pg) :: MM) (s1.dir.map (·.1)) := WB.of W2 hb k3 (by rw [kk1]; exact e3)
    walk_at "rd"
    refine ⟨st, sc, 3, rfl, by decide, by decide, W3.dr, fun dm H4 x0 x1 dr4 k4 => ?_⟩
    have W4 := W3.draw k4 dr4
    walk_at "rd"
    refine wfor Wk.rng (fun j σ H' => ∃ u6 u7 u8 O' s' pg', σ = [some (.ref st), some (.ref sc), some (.ref p), some (.ref m), some (.int tn), some (.ref b), u6, u7, u8] ∧ WB c K H' st sc p q b O' Od s' ((m, (tn : Int) + 1, pg') :: MM) (s'.dir.map (·.1)) ∧ s'.dev = s1.dev ∧ s'.com = s1.com ∧ C6 i s' gs [] 0 ∧ s'.dir.length ≠ 0 ∧ RM (gpg s') ((tn : Int) + 1) pg')
      ⟨none, none, none, O1, s1, pg, rfl, W4, rfl, rfl, c1, by rw [← List.length_map (f := (·.1)), kk1]; decide, rm1⟩ (fun _ _ _ _ => trivial) ?_ ?_
    · rintro j x σ H5 ex ⟨u6, u7, u8, O5, s5, pg5, rfl, W5, ed, ec, c5, dl5, rm5⟩
      obtain ⟨hj, rfl⟩ := rgl_at ex
      have d5 := c5.kd.len
      walk_at "rd"
      refine ⟨st, sc, 4, rfl, by decide, by decide, W5.dr, fun kn H6 y0 y1 dr6 k6 => ?_⟩
      have W6 := W5.draw k6 dr6
      walk_at "rd"
      refine x_newL fun z1 H7 hz1 k7 e7 => ?_
      have W7 := W6.pure k7
      walk_at "rd"
      refine x_rep e7 (by decide) (by decide) fun z2 H8 hz2 k8 e8 => ?_
      have W8 := W7.pure k8
      walk_at "rd"
      refine ⟨st, sc, 256, rfl, by decide, by decide, W8.dr, fun v1 H9 b0 b1 dr9 k9 => ?_⟩
      have W9 := W8.draw k9 dr9
      obtain ⟨_, hst7⟩ := W7.dr.trk
      have e9 := k9.get e8 (ne_of_none hst7 hz2).symm
      walk_at "rd"
      refine x_newL fun z3 H10 hz3 k10 e10 => ?_
      have W10 := W9.pure k10
      walk_at "rd"
      refine x_rep e10 (by decide) (by decide) fun z4 H11 hz4 k11 e11 => ?_
      have W11 := W10.pure k11
      walk_at "rd"
      refine x_catL (k11.get (k10.get e9 id) id) e11 (by rw [List.length_replicate, List.length_replicate]; decide) fun z5 H12 hz5 k12 e12 => ?_
      have W12 := W11.pure k12
      walk_at "rd"
      refine ⟨st, sc, 256, rfl, by decide, by decide, W12.dr, fun v2 H13 b2 b3 dr13 k13 => ?_⟩
      have W13 := W12.draw k13 dr13
      obtain ⟨_, hst11⟩ := W11.dr.trk
      have e13 := k13.get e12 (ne_of_none hst11 hz5).symm
      walk_at "rd"
      refine x_newL fun z6 H14 hz6 k14 e14 => ?_
      have W14 := W13.pure k14
      walk_at "rd"
      refine x_rep e14 (by decide) (by decide) fun z7 H15 hz7 k15 e15 => ?_
      have W15 := W14.pure k15
      walk_at "rd"
      refine x_catL (k15.get (k14.get e13 id) id) e15 (by simp only [List.length_append, List.length_replicate]; decide) fun l H16 hl k16 e16 => ?_
      have W16 := W15.pure k16
      obtain ⟨ds, lds, el⟩ : ∃ ds : List Int, ds.length = 256 ∧ H16 l = some (.lst (ds.map V.int)) :=
        ⟨List.replicate 100 ((tn : Int) + 1) ++ List.replicate 100 v1 ++ List.replicate 56 v2, by simp only [List.length_append, List.length_replicate], by rw [e16]; simp only [List.map_append, List.map_replicate]; rfl⟩
      obtain ⟨⟨dx, a1, a2, y1, y2, DP⟩, _⟩ := id W16.pg
      have ho := DP.o
      have nlO := W15.pg.fresh hl
      have nls := W15.dr.new hl
      have nlb : l ≠ b := (ne_of_none W15.b0 hl).symm
      walk_at "rd"
      refine ⟨p, q, O5, Od, s5, 1 + kn, l, ds, rfl, W16.pg, SqL.of el, by omega, fun H17 O17 P17 t17 => ?_⟩
      have W17 := W16.pager P17 t17
      have el17 := t17.kp.get el nlO
      have nlO17 := t17.kp0 el nlO
      have c17 := c5.put (n := 1 + kn) (ds := ds) ⟨lds, by show (0 : Int) ≤ 1 + kn; omega, by show 1 + kn ≤ (4 : Int); omega⟩
      obtain ⟨ad, hm17, nmO, nms, p4, no4⟩ := W17.md _ (List.mem_cons_self ..)
      walk_at "rd"
      refine x_dpI hm17 (Nat.le_of_ble_eq_true rfl) fun H18 e18 k18 => ?_
      rw [kd_n _ _ (by omega) (by omega)] at e18
      have nlm : l ≠ m := fun z => by rw [z, hm17] at el17; cases el17
      have W18 := W17.put (x := (m, (tn : Int) + 1, vput pg5 (1 + kn) ds)) hm17 nm k18 ⟨_, e18, nmO, nms, fun n n0 n1 => by
        show H18 (if n = 1 + kn then l else ad n) = some (.lst ((vput pg5 (1 + kn) ds n).map V.int))
        unfold vput
        split
        · exact k18.get el17 nlm
        · exact k18.get (p4 n n0 n1) (fun z => by have y := p4 n n0 n1; rw [show ad n = m from z, hm17] at y; cases y), fun n n0 n1 => by
        show ¬ (O17 (if n = 1 + kn then l else ad n) ∨ (if n = 1 + kn then l else ad n) = b) ∧ (if n = 1 + kn then l else ad n) ≠ st
        split
        · exact ⟨fun z => z.elim nlO17 nlb, nls⟩
        · exact no4 n n0 n1⟩
      have rm18 : RM (gpg (pwr (1 + kn) ds s5)) ((tn : Int) + 1) (vput pg5 (1 + kn) ds) := by rw [gpg_pwr]; exact rm5.put (by omega)
      have kz : (pwr (1 + kn) ds s5).dir.map (·.1) = _ := aput_keys s5.dir (1 + kn) ds
      have dz : (pwr (1 + kn) ds s5).dir.length ≠ 0 := fun z => by
        have e := congrArg List.length kz
        rw [List.length_map, z] at e
        split at e
        · rw [List.length_map] at e; omega
        · rw [List.length_append] at e; simp at e
      walk_at "rd"
      refine ⟨b, _, rfl, .inl (SqL.of W18.b0), rfl, flat_ints _, ?_⟩
      rw [inV_ints, if_pos rfl]
      cases hin : (s5.dir.map (·.1)).any fun k => decide (k = 1 + kn) with
      | true =>
        rw [if_pos hin] at kz
        walk_at "rd"
        exact ⟨_, _, _, O17, pwr (1 + kn) ds s5, _, rfl, by rw [kz]; exact W18, ed, ec, c17, dz, rm18⟩
      | false =>
        rw [if_neg (by rw [hin]; exact Bool.false_ne_true)] at kz
        have hb18 := W18.b0
        walk_at "rd"
        refine x_app hb18 (by rw [List.length_map, List.length_map]; omega) fun H19 e19 k19 => ?_
        walk_at "rd"
        exact ⟨_, _, _, O17, pwr (1 + kn) ds s5, _, rfl, by rw [kz]; exact W18.app k19 (by rw [e19, List.map_append]; rfl), ed, ec, c17, dz, rm18⟩
    · rintro σ H5 ⟨u6, u7, u8, O5, s5, pg5, rfl, W5, ed, ec, c5, dl5, rm5⟩
      walk_at "rd"
      refine ⟨b, _, rfl, SqL.of W5.b0, fun ns r pe so hr => ?_⟩
      obtain rfl := skeys_eq pe so
      exact k _ O5 s5 pg5 r (WB.of W5.wp hr (Kp.new hr) upd_same) (ed.trans es1) (ec.trans es2) c5 dl5 rm5
end
section
variable {P : Program} {w : World} {K : PySem.W.Frag} {mg : Str → Option Value} {base : Heap} {c : Cl}
def sp__law_group_holds (c : Cl) : Sp := fun vs H Q _ => ∃ (p q b : Addr) (O Od : Addr → Prop) (s : PgS) (bs : List Int) (g : List (Int × List Int)), vs = [.ref q, .ref p, .int bs.length, .ref b] ∧ PagAt c H p q O Od s ∧ Sml s.dev ∧ clog s.dev = bs ++ wg g ∧ Good g ∧ H b = some (.lst ((g.map (·.1)).map V.int)) ∧ (∀ x ∈ g, gpg s x.1 = x.2) ∧ ∀ H', Kp F0 H H' → Q (.bl true) H'
theorem ok__law_group_holds (T : Txt K mg c) : GF P w K mg base CX0 4 "_law_group_holds" (sp__law_group_holds c) := by
  obtain ⟨f, fd, F, gm⟩ := T.f__law_group_holds
  have tc_Device := T.cl_Device; have tn_Device_pages := T.n_Device_pages; have tn_Device_page_writes := T.n_Device_page_writes; have tn_Device_durable_log := T.n_Device_durable_log; have tn_Device_log_steps := T.n_Device_log_steps; have tn_Device_done := T.n_Device_done; have tn_Device_most := T.n_Device_most
  have tc_Pager := T.cl_Pager; have tn_Pager_device := T.n_Pager_device; have tn_Pager_committed := T.n_Pager_committed; have tn_Pager_dirty := T.n_Pager_dirty
  refine ⟨f, fd, ["_law_device", "_law_pager", "_law_length", "_law_numbers"], F.ok sc__law_group_holds ?_ (fun cdv A outer s0 H vs Q E hr h => ?_), gm, F.kp, (F.binds (ps := ["_law_device", "_law_pager", "_law_length", "_law_numbers"]) fun _ _ _ _ _ _ us hl => match us, hl with | [_, _, _, _], _ => rfl)⟩
  · rintro vs H Q E ⟨_, _, _, _, _, _, _, _, rfl, _⟩
    rfl
  · obtain ⟨p, q, b, O, Od, s, bs, g, rfl, hP, sm, ec, gg, hb, hv, k⟩ := h
    obtain ⟨⟨dx, a1, a2, y1, y2, DP⟩, _⟩ := id hP
    obtain ⟨⟨dz, c1, c2, c3, c4, kvs, ws, DD⟩, _⟩ := id hP.dv.1
    have ho := DP.o
    have hq := DD.o
    have gn := gg.n
    refine ⟨_, (pss_cons (ps_set (i := 4) sc__law_group_holds.nd rfl (Or.inl rfl) (pe_g (ok_read_groups T) (hr.mono (by decide)) pass0S (pa_cons (pe_slice (r := rSlL K) sl_list (pe_gm0 T.cl_Device (ok_Device_log T) (pv 0) (hr.mono (by decide)) pass0S) (po_some (pv 2)) po_none) pa_nil)))
      (pss_cons (ps_if (PW.pt (pw_or (pt_cmpR op_ne (pe_callB (r := rLenQ K) c_len (by rfl) T.z_len PySem.boot_len (pa_cons (pv 4) pa_nil)) pe_int (nomark _)) (pw_or1 (pt_cmpR (r := rNeD K) (op_neD hr.units) (pe_lc (own := [("_law_pair", 5)]) (g := (gName 5)) (tt := tYes) rfl sc__law_group_holds.nd (pi_listK rfl (pe_ix (r := rIxL K) ix_list (pv 4) pe_int (fun _ _ => rfl))) (blkOk_by (N := ["_law_device", "_law_pager", "_law_length", "_law_numbers", "_law_groups", "_law_pair"]) (sc := defScope s__law_group_holds) (by decide +kernel)) (fun _ _ _ _ _ => (pg_name (i := 5) sc__law_group_holds.nd rfl (Or.inl rfl))) (fun _ _ _ _ _ => pts_nil) (fun _ _ _ _ _ => (pe_ix (r := rIxT K) ix_tup (pv 5) pe_int (fun _ _ => rfl)))) (pv 3) (nomark _))))) (pss_one (ps_ret pe_bl)) pss_nil)
      (pss_one (ps_ret (pe_callB (r := rAll K) (cr_all rfl) (by rfl) T.z_all (by decide +kernel) (pa_cons (pe_lc (own := [("_law_pair", 5)]) (g := (gName 5)) (tt := tYes) rfl sc__law_group_holds.nd (pi_listK rfl (pe_ix (r := rIxL K) ix_list (pv 4) pe_int (fun _ _ => rfl))) (blkOk_by (N := ["_law_device", "_law_pager", "_law_length", "_law_numbers", "_law_groups", "_law_pair"]) (sc := defScope s__law_group_holds) (by decide +kernel)) (fun _ _ _ _ _ => (pg_name (i := 5) sc__law_group_holds.nd rfl (Or.inl rfl))) (fun _ _ _ _ _ => pts_nil) (fun _ _ _ _ _ => (pe_cmpR (r := rEqD K) (op_eqD hr.units) (pe_ix (r := rIxT K) ix_tup (pv 5) pe_int (fun _ _ => rfl)) (pe_gm T.cl_Pager (ok_Pager_read T) (pv 1) (hr.mono (by decide)) pass0S (pa_cons (pe_ix (r := rIxT K) ix_tup (pv 5) pe_int (fun _ _ => rfl)) pa_nil)) (nomark _)))) pa_nil)))))), ?_⟩
    walk_at "cx"
    walk_at "rd"
    refine ⟨q, Od, s.dev, rfl, hP.dv.1, sm, fun l1 H1 hl1 k1 e1 => ?_⟩
    walk_at "rd"
    refine x_slL (SqL.of e1) fun l2 H2 hl2 k2 e2 => ?_
    rw [ec, cut_from (by omega) (by rw [List.length_append]; omega), Int.toNat_natCast, List.drop_left] at e2
    refine ⟨l2, wg g, [g], [], 0, rfl, SqL.of e2, by simp, by decide, fun x hx => by rw [List.mem_singleton.mp hx]; exact gg, good_nil, Nat.le_of_ble_eq_true rfl, fun r H3 hr k3 hg => ?_⟩
    have k03 : Kp F0 H H3 := (k1.trans k2 fun _ z => z.elim).trans k3 fun _ z => z.elim
    obtain ⟨vs, er, _, pv⟩ := hg
    cases pv with
    | cons rv rt =>
      cases rt
      obtain ⟨a, ws, rfl, ha, _, pw⟩ := rv
      have lw := pw.length
      walk_at "rd"
      rw [if_neg (by simp)]
      walk_at "rd"
      refine wlcP (ys := (g.map (·.1)).map V.int) (Wk.list (xs := ws)) (by rw [List.length_map, List.length_map, lw]) (by omega) (fun H' s => SqL.of (s.get ha id)) (fun i x y H' R ex ey kp hR => ?_) (fun D H4 hD k4 hD4 => ?_)
      · obtain ⟨x', e', t, l, rfl, ht, hl, _⟩ := pgt pw ex
        rw [List.getElem?_map, List.getElem?_map, e'] at ey
        cases ey
        walk_at "rd"
        refine ⟨rfl, ?_⟩
        walk_at "rd"
        exact hR _ (Kp.refl _)
      · have k04 : Kp F0 H H4 := k03.trans k4 fun _ z => z.elim
        walk_at "rd"
        refine x_neLI (SqL.of hD4) (SqL.of (k04.get hb id)) ?_
        rw [decide_eq_true rfl]
        have er4 := k4.get er id
        have ha4 := k4.get ha id
        walk_at "rd"
        refine wlcP (ys := (List.replicate g.length true).map V.bl) (Wk.list (xs := ws)) (by rw [List.length_map, List.length_replicate, lw]) (by omega) (fun H' s => SqL.of (s.get (k4.get ha id) id)) (fun i x y H' R ex ey kp hR => ?_) (fun D H5 hD k5 hD5 => ?_)
        · obtain ⟨x', e', t, l, rfl, ht, hl, _⟩ := pgt pw ex
          rw [List.getElem?_map, List.getElem?_replicate, if_pos (List.getElem?_eq_some_iff.mp e').1] at ey
          cases ey
          have k06 : Kp F0 H H' := k04.trans kp fun _ z => z.elim
          have ho6 := k06.get ho id
          have ht6 := (kp.tup (k4.tup ht))
          walk_at "rd"
          refine ⟨rfl, ?_⟩
          walk_at "rd"
          refine ⟨p, q, O, Od, s, x'.1, rfl, hP.same k06, fun b7 H7 hb7 k7 e7 => ?_⟩
          refine x_eqLI (SqL.of (k7.get (kp.get (k4.get hl id) id) id)) (SqL.of e7) ?_
          rw [hv x' (List.mem_of_getElem? e'), decide_eq_true rfl]
          exact hR _ k7
        · walk_at "rd"
          refine x_all (SqL.of hD5) ?_
          rw [show (List.replicate g.length true).all id = true by simp]
          exact k H5 (k04.trans k5 fun _ z => z.elim)
end
section
variable {P : Program} {w : World} {K : PySem.W.Frag} {mg : Str → Option Value} {base : Heap} {c : Cl}
theorem cnth_dev (s : PgS) : (cnth s).dev = s.dev := by unfold cnth; split <;> rfl
theorem cnth_keys {s : PgS} (h : s.dir = []) : (cnth s).dir.map (·.1) = [] ∨ (cnth s).dir.map (·.1) = [0] := by
  unfold cnth; split
  · right
    show (aput s.dir 0 _).map (·.1) = _
    rw [h]; rfl
  · left; rw [h]; rfl
theorem C6.rest {i : Nat} {s : PgS} (h : C6 i s [] [] 0) (e : s.dir = []) : rv [] s.dev.pages = gpg s := by
  rw [← h.bv]; unfold NV.bv; rw [← e]
theorem A6.cl {i : Nat} {d : DevS} {gs : List (List (Int × List Int))} {more : List (Int × List Int)} {j : Nat} (h : A6 i d gs more j) : clog d = gs.flatMap wg ++ (wg more).take j := by unfold clog; rw [h.st]; exact h.lg
/-- one opening, done or cut off -/
theorem open_step {H1 : Hp} {st sc q p' dy : Addr} {Od : Addr → Prop} {d : DevS} {MM : List ME} {i j : Nat} {gs : List (List (Int × List Int))} {more : List (Int × List Int)} (W : WD c K H1 st sc q Od d MM) (h : A6 i d gs more j) (hi : i ≤ 100) (hp' : d.most = none ∨ ∃ r : Nat, d.most = some (d.done + r))
    (hp : H1 p' = none) (hdy : H1 dy = none) (nd : dy ≠ p') {Q : VK} {E : XK}
    (yes : ∀ H' O' Od' s1, WP c K H' st sc p' q O' Od' (cnth s1) MM → C6 i s1 [] [] 0 → s1.dir = [] → gpg s1 = rv gs d.pages → s1.dev.most = d.most → Q .non H')
    (no : ∀ H' O' Od' s1 (r : Nat), WP c K H' st sc p' q O' Od' s1 MM → d.most = some (d.done + r) → s1.dev.done = d.done + r → Cut i s1.dev (rv gs d.pages) → E (.ref c.PowerCut) none H') :
    sp_Pager_init c [.ref p', .ref q] (upd (upd H1 dy (.own p')) p' (.ins c.Pager dy [])) Q E := by
  have km : Kp F0 H1 (upd (upd H1 dy (.own p')) p' (.ins c.Pager dy [])) := (Kp.new hdy).trans (Kp.new (by rw [upd_ne nd.symm]; exact hp)) fun _ z => z.elim
  have C := C6.of h
  have n4 := h.n4
  have op := open6 h hi hp'
  refine ⟨p', dy, q, Od, d, gs, more, j, rfl, upd_same, W.dv.same km, W.dv.fresh hp, h.cl, h.lj, h.gd, h.gm, by omega, C.ckz hi, fun e => ?_, fun H' O' Od' P t => ?_⟩
  · rcases op with ⟨s1, e1, c1, _⟩ | ⟨s1, r, e1, _⟩
    · rw [e1]; exact c1.z 0
    · rw [e1] at e; cases e
  · have W' := W.opened km hp P t
    rcases op with ⟨s1, e1, c1, d1, v1, m1⟩ | ⟨s1, r, e1, m1, n1, cu⟩
    · have ei : pinit gs d = (cnth s1, true) := by unfold pinit; rw [e1, if_pos rfl]
      rw [ei] at W' ⊢
      rw [if_pos rfl]
      exact yes H' O' Od' s1 W' c1 d1 v1 m1
    · have ei : pinit gs d = (s1, false) := by unfold pinit; rw [e1, if_neg Bool.false_ne_true]
      rw [ei] at W' ⊢
      rw [if_neg Bool.false_ne_true]
      exact no H' O' Od' s1 r W' m1 n1 cu
def sp__law_opened (c : Cl) (K : PySem.W.Frag) : Sp := fun vs H Q _ => ∃ (st sc q : Addr) (Od : Addr → Prop) (d : DevS) (MM : List ME) (i : Nat) (gs : List (List (Int × List Int))) (more : List (Int × List Int)) (j : Nat), vs = [.ref st, .ref sc, .ref q] ∧ WD c K H st sc q Od d MM ∧ A6 i d gs more j ∧ i ≤ 100 ∧ d.most = none ∧
  ∀ H' p O' Od' s', WP c K H' st sc p q O' Od' (cnth s') MM → C6 i s' [] [] 0 → s'.dev.most = none → s'.dir = [] → gpg s' = rv gs d.pages → Q (.ref p) H'
theorem ok__law_opened (T : Txt K mg c) : GF P w K mg base CX0 8 "_law_opened" (sp__law_opened c K) := by
  obtain ⟨f, fd, F, gm⟩ := T.f__law_opened
  have tc_Device := T.cl_Device; have tn_Device_pages := T.n_Device_pages; have tn_Device_page_writes := T.n_Device_page_writes; have tn_Device_durable_log := T.n_Device_durable_log; have tn_Device_log_steps := T.n_Device_log_steps; have tn_Device_done := T.n_Device_done; have tn_Device_most := T.n_Device_most
  have tc_Pager := T.cl_Pager; have tn_Pager_device := T.n_Pager_device; have tn_Pager_committed := T.n_Pager_committed; have tn_Pager_dirty := T.n_Pager_dirty
  refine ⟨f, fd, ["_law_state", "_law_script", "_law_device"], F.ok sc__law_opened ?_ (fun cdv A outer s0 H vs Q E hr h => ?_), gm, F.kp, (F.binds (ps := ["_law_state", "_law_script", "_law_device"]) fun _ _ _ _ _ _ us hl => match us, hl with | [_, _, _], _ => rfl)⟩
  · rintro vs H Q E ⟨_, _, _, _, _, _, _, _, _, _, rfl, _⟩
    rfl
  · obtain ⟨st, sc, q, Od, d, MM, i, gs, more, j, rfl, W, a6, hi, hm, k⟩ := h
    have hex : PySem.W.exmOne K (.ref c.PowerCut) (.ref c.PowerCut) = some true := PySem.W.exm_ref T.ex_PowerCut.b T.ec_PowerCut.hd T.ex_PowerCut.t T.ex_PowerCut.s
    refine ⟨_, (pss_cons (ps_for PassesOwn.never rfl (pi_range1 (by rfl) T.z_range (pa_cons pe_int pa_nil)) (pg_name (i := 3) sc__law_opened.nd rfl (Or.inl rfl)) (pss_one (ps_if (pt_cmpR op_eq (pe_g (ok__law_draw T) (hr.mono (by decide)) pass0S (pa_cons (pv 0) (pa_cons (pv 1) (pa_cons pe_int pa_nil)))) pe_int (nomark _)) (pss_cons (ps_set (i := 4) sc__law_opened.nd rfl (Or.inl rfl) (pe_g (ok__law_draw T) (hr.mono (by decide)) pass0S (pa_cons (pv 0) (pa_cons (pv 1) (pa_cons pe_int pa_nil)))))
      (pss_cons (ps_expr (pe_gm T.cl_Device (ok_Device_limit T) (pv 2) (hr.mono (by decide)) pass0S (pa_cons (pv 4) pa_nil)))
      (pss_cons (ps_set (i := 5) sc__law_opened.nd rfl (Or.inl rfl) (pe_gm0 T.cl_Device (ok_Device_steps T) (pv 2) (hr.mono (by decide)) pass0S))
      (pss_cons (L2H.ps_try_onlyX (Wout := fun _ _ _ _ => False) rfl rfl ⟨rfl, by decide, .inl T.ex_PowerCut.g⟩ (fun _ => PassesOwnAt.never) takes0 (fun W pn xe tk tk2 _ => (pss_one (ps_expr (pe_gc (mk_Pager T) (hr.mono (by decide)) (fun σ => L2N.passAt tk σ) (pa_cons (pv 2) pa_nil))))) (fun a oe cls d pn hz hf tw hc => (pss_cons (ps_if (pt_cmpR op_ne (pe_op op_sub (pe_gmH0 T.cl_Device (okH_Device_steps T) (pv 2) ((roomS hr).mono (by decide)) hc) (pv 5)) (pv 4) (nomark _)) (pss_one (ps_ret pe_non)) pss_nil)
      (pss_one (ps_expr (pe_gH (okH__law_crash T) ((roomS hr).mono (by decide)) hc (pa_cons (pv 0) (pa_cons (pv 1) (pa_cons (pv 2) pa_nil)))))))))
      (pss_one (ps_expr (pe_gm T.cl_Device (ok_Device_limit T) (pv 2) (hr.mono (by decide)) pass0S (pa_cons pe_non pa_nil)))))))) pss_nil)))
      (pss_cons (ps_set (i := 6) sc__law_opened.nd rfl (Or.inl rfl) (pe_gc (mk_Pager T) (hr.mono (by decide)) passNN (pa_cons (pv 2) pa_nil)))
      (pss_cons (ps_if (PW.pt (pw_or (pt_cmpR (r := rNeD K) (op_neD hr.units) (pe_gm0 T.cl_Device (ok_Device_log T) (pv 2) (hr.mono (by decide)) pass0S) (pe_lst pa_nil) (nomark _)) (pw_or1 (pt_cmpR (r := rNeD K) (op_neD hr.units) (pe_gm0 T.cl_Device (ok_Device_pending T) (pv 2) (hr.mono (by decide)) pass0S) (pe_tup (pa_cons pe_int (pa_cons pe_int pa_nil))) (nomark _))))) (pss_one (ps_ret pe_non)) pss_nil)
      (pss_one (ps_ret (pv 6)))))), ?_⟩
    walk_at "cx"
    walk_at "rd"
    refine wfor Wk.rng (fun n σ H' => ∃ u3 u4 u5 Od d' gs' more j, σ = [some (.ref st), some (.ref sc), some (.ref q), u3, u4, u5, none] ∧ WD c K H' st sc q Od d' MM ∧ A6 i d' gs' more j ∧ d'.most = none ∧ rv gs' d'.pages = rv gs d.pages)
      ⟨none, none, none, Od, d, gs, more, j, rfl, W, a6, hm, rfl⟩ (fun _ _ _ _ => trivial) ?_ ?_
    · rintro n x σ H1 ex ⟨u3, u4, u5, Od, d1, gs1, more, j, rfl, W, a6, hm, ev⟩
      obtain ⟨hn, rfl⟩ := rgl_at ex
      walk_at "rd"
      refine ⟨st, sc, 2, rfl, by decide, by decide, W.dr, fun y H2 y0 y1 dr2 k2 => ?_⟩
      have W2 := W.draw k2 dr2
      walk_at "rd"
      refine ite_dec (fun e => ?_) fun e => ?_
      · obtain ⟨⟨dz, c1, c2, c3, c4, kvs, ws, DD⟩, _⟩ := id W2.dv
        walk_at "rd"
        refine ⟨st, sc, 9, rfl, by decide, by decide, W2.dr, fun pw H3 z0 z1 dr3 k3 => ?_⟩
        obtain ⟨pw, rfl⟩ := Int.eq_ofNat_of_zero_le z0
        have W3 := W2.draw k3 dr3
        obtain ⟨⟨dz, c1, c2, c3, c4, kvs, ws, DD⟩, _⟩ := id W3.dv
        have hq := DD.o
        walk_at "rd"
        refine ⟨q, Od, d1, some (pw : Int), rfl, W3.dv, fun H4 O4 V4 t4 => ?_⟩
        have W4 := W3.step V4 t4
        have a4 : A6 i (dLimit (some (pw : Int)) d1) gs1 more j := a6.up (Nat.le_refl _) rfl a6.w rfl a6.st
        obtain ⟨⟨dz, c1, c2, c3, c4, kvs, ws, DD4⟩, _⟩ := id W4.dv
        have hq4 := DD4.o
        walk_at "rd"
        refine ⟨q, O4, _, rfl, W4.dv, ?_⟩
        walk_at "rd"
        intro p' dy hp hdy nd
        refine open_step W4 a4 hi (.inr ⟨pw, rfl⟩) hp hdy nd (fun H5 O5 Od5 s1 W5 c5 d5 v5 m5 => ⟨rfl, ?_⟩) fun H5 O5 Od5 s1 r W5 m5 n5 cu => ?_
        · have W5' := W5.dev
          rw [cnth_dev] at W5'
          obtain ⟨⟨dz, c1, c2, c3, c4, kvs, ws, DD5⟩, _⟩ := id W5'.dv
          have hq5 := DD5.o
          walk_at "rd"
          refine ⟨q, Od5, s1.dev, none, rfl, W5'.dv, fun H6 O6 V6 t6 => ?_⟩
          walk_at "rd"
          refine ⟨_, _, _, O6, _, [], [], 0, rfl, W5'.step V6 t6, c5.a.up (Nat.le_refl _) rfl c5.a.w rfl c5.a.st, rfl, ?_⟩
          show rv [] s1.dev.pages = _
          rw [c5.rest d5, v5, ← ev]; rfl
        · refine ⟨true, hex, fun _ a ha => ?_, fun z => by cases z⟩
          have W5' := W5.dev
          obtain ⟨⟨dz, c1, c2, c3, c4, kvs, ws, DD5⟩, _⟩ := id W5'.dv
          have hq5 := DD5.o
          have er : r = pw := by
            have z : some (d1.done + (pw : Int)) = some (d1.done + (r : Int)) := m5
            have y := Option.some.inj z
            omega
          walk_at "rd"
          refine ⟨q, Od5, s1.dev, rfl, W5'.dv, ?_⟩
          walk_at "rd"
          rw [decide_eq_true (by rw [n5, er]; show d1.done + (pw : Int) - d1.done = _; omega)]
          walk_at "rd"
          refine ⟨st, sc, q, Od5, s1.dev, MM, rfl, W5', cu.sm, by have := cu.nw; omega, cu.ns, fun H6 Od6 fs kept hk W6 => ?_⟩
          obtain ⟨gs6, more6, j6, a6', v6⟩ := cu.cr fs kept
          obtain ⟨⟨dz, c1, c2, c3, c4, kvs, ws, DD6⟩, _⟩ := id W6.dv
          have hq6 := DD6.o
          walk_at "rd"
          refine ⟨q, Od6, _, none, rfl, W6.dv, fun H7 O7 V7 t7 => ?_⟩
          walk_at "rd"
          refine ⟨_, _, _, O7, _, gs6, more6, j6, rfl, W6.step V7 t7, a6'.up (Nat.le_refl _) rfl a6'.w rfl a6'.st, rfl, ?_⟩
          show rv gs6 (dCrash fs kept s1.dev).pages = _
          rw [v6, ← ev]; rfl
      · exact ⟨_, u4, u5, Od, d1, gs1, more, j, rfl, W2, a6, hm, ev⟩
    · rintro σ H1 ⟨u3, u4, u5, Od, d1, gs1, more, j, rfl, W, a6, hm, ev⟩
      walk_at "rd"
      intro p' dy hp hdy nd
      refine open_step W a6 hi (.inl hm) hp hdy nd (fun H5 O5 Od5 s1 W5 c5 d5 v5 m5 => ⟨rfl, ?_⟩) fun H5 O5 Od5 s1 r W5 m5 n5 cu => by rw [hm] at m5; cases m5
      have W5' := W5.dev
      have sm := c5.sml hi
      rw [← cnth_dev] at sm
      obtain ⟨⟨dz, c1, c2, c3, c4, kvs, ws, DD5⟩, _⟩ := id W5'.dv
      have hq5 := DD5.o
      walk_at "rd"
      refine ⟨q, Od5, _, rfl, W5'.dv, sm, fun l1 H6 hl1 k6 e6 => ?_⟩
      have W6 := W5.pure k6
      have hq6 := k6.get hq5 id
      walk_at "rd"
      refine x_newL fun l2 H7 hl2 k7 e7 => ?_
      have W7 := W6.pure k7
      have hq7 := k7.get hq6 id
      have ecl : clog (cnth s1).dev = [] := by rw [cnth_dev, c5.a.cl]; rfl
      refine x_neLI (ns := clog (cnth s1).dev) (ms := []) (SqL.of (k7.get e6 id)) (SqL.of e7) ?_
      rw [decide_eq_true ecl]
      walk_at "rd"
      refine ⟨q, Od5, _, rfl, W7.dev.dv, fun t1 H8 k8 e8 => ?_⟩
      have W8 := W7.pure k8
      walk_at "rd"
      refine x_newT fun t2 H9 ht2 k9 e9 => ?_
      have W9 := W8.pure k9
      refine x_neTI (ns := [((cnth s1).dev.writes.length : Int), ((cnth s1).dev.steps.length : Int)]) (ms := [0, 0]) (SqT.of (k9.tup e8)) (SqT.of e9) ?_
      rw [cnth_dev, c5.a.w, c5.a.st, decide_eq_true (by simp)]
      walk_at "rd"
      exact k H9 p' O5 Od5 s1 W9 c5 (m5.trans hm) d5 (v5.trans ev)
end
section
variable {P : Program} {w : World} {K : PySem.W.Frag} {mg : Str → Option Value} {base : Heap} {c : Cl}
theorem grp_keys (l : List (Int × List Int)) : (grp l).map (·.1) = skeys l := by
  unfold grp; rw [List.map_map]
  exact List.map_id _
/-- how a round ends: n pages, the word, the state behind it -/
def R6 (i : Nat) (s s' : PgS) (pw : Option Nat) (n : Nat) (word : Str) (v' : Int → List Int) : Prop :=
  (word = "cut" ∧ ∃ r, pw = some r ∧ s'.dev.done = s.dev.done + (r : Nat) ∧ Sml s'.dev ∧ s'.dev.writes.length ≤ 5 ∧ s'.dev.steps.length ≤ 100000 ∧
      ∀ fs kept, kept ≤ s'.dev.steps.length → ∃ gs more j, A6 (i + 1) (dCrash fs kept s'.dev) gs more j ∧ rv gs (dCrash fs kept s'.dev).pages = if 4 + 260 * n ≤ kept then v' else bv s) ∨
  (word = "late" ∧ ∃ r, pw = some r ∧ s'.dev.done = s.dev.done + (r : Nat) ∧ 5 + 260 * n ≤ r ∧ Cut (i + 1) s'.dev v') ∨
  (word = "stands" ∧ s.dev.done + 5 + 260 * (n : Int) ≤ s'.dev.done ∧ (∀ r, pw = some r → s'.dev.done ≤ s.dev.done + (r : Nat)) ∧ ∃ gs, C6 (i + 1) s' gs [] 0 ∧ s'.dir = [] ∧ gpg s' = v')
def sp__law_round (c : Cl) (K : PySem.W.Frag) : Sp := fun vs H Q _ => ∃ (st sc p q m : Addr) (O Od : Addr → Prop) (s : PgS) (MM : List ME) (f : Int) (pg : Int → List Int) (tn i : Nat) (gs : List (List (Int × List Int))) (pw : Option Nat), vs = [.ref st, .ref sc, .ref q, .ref p, .ref m, .int tn] ∧ WP c K H st sc p q O Od s ((m, f, pg) :: MM) ∧ (∀ x ∈ MM, x.1 ≠ m) ∧ C6 i s gs [] 0 ∧ i ≤ 90 ∧ RM (gpg s) f pg ∧ tn ≤ 1000 ∧ (s.dir.map (·.1) = [] ∨ s.dir.map (·.1) = [0]) ∧ s.dev.most = pw.map (fun r => s.dev.done + (r : Nat)) ∧
  ∀ H' O' Od' s' pg' t (n : Nat) word v', WP c K H' st sc p q O' Od' s' ((m, (tn : Int) + 1, pg') :: MM) → H' t = some (.tup [.int n, .str word]) → n ≤ 5 → RM v' ((tn : Int) + 1) pg' → R6 i s s' pw n word v' → Q (.ref t) H'
theorem ok__law_round (T : Txt K mg c) : GF P w K mg base CX0 6 "_law_round" (sp__law_round c K) := by
  obtain ⟨f, fd, F, gm⟩ := T.f__law_round
  have tc_Device := T.cl_Device; have tn_Device_pages := T.n_Device_pages; have tn_Device_page_writes := T.n_Device_page_writes; have tn_Device_durable_log := T.n_Device_durable_log; have tn_Device_log_steps := T.n_Device_log_steps; have tn_Device_done := T.n_Device_done; have tn_Device_most := T.n_Device_most
  have tc_Pager := T.cl_Pager; have tn_Pager_device := T.n_Pager_device; have tn_Pager_committed := T.n_Pager_committed; have tn_Pager_dirty := T.n_Pager_dirty
  refine ⟨f, fd, ["_law_state", "_law_script", "_law_device", "_law_pager", "_law_model", "_law_turn"], F.ok sc__law_round ?_ (fun cdv A outer s0 H vs Q E hr h => ?_), gm, F.kp, (F.binds (ps := ["_law_state", "_law_script", "_law_device", "_law_pager", "_law_model", "_law_turn"]) fun _ _ _ _ _ _ us hl => match us, hl with | [_, _, _, _, _, _], _ => rfl)⟩
  · rintro vs H Q E ⟨_, _, _, _, _, _, _, _, _, _, _, _, _, _, _, rfl, _⟩
    rfl
  · obtain ⟨st, sc, p, q, m, O, Od, s, MM, fv, pg, tn, i, gs, pw, rfl, W, nm, cc, hi, rm, ht, hd0, hm, k⟩ := h
    have hex : PySem.W.exmOne K (.ref c.PowerCut) (.ref c.PowerCut) = some true := PySem.W.exm_ref T.ex_PowerCut.b T.ec_PowerCut.hd T.ex_PowerCut.t T.ex_PowerCut.s
    refine ⟨_, (pss_cons (ps_set (i := 6) sc__law_round.nd rfl (Or.inl rfl) (pe_g (ok__law_change T) (hr.mono (by decide)) pass0S (pa_cons (pv 0) (pa_cons (pv 1) (pa_cons (pv 3) (pa_cons (pv 4) (pa_cons (pv 5) pa_nil)))))))
      (pss_cons (ps_set (i := 7) sc__law_round.nd rfl (Or.inl rfl) (pe_callB (r := rLenQ K) c_len (by rfl) T.z_len PySem.boot_len (pa_cons (pe_gm0 T.cl_Device (ok_Device_log T) (pv 2) (hr.mono (by decide)) pass0S) pa_nil)))
      (pss_cons (L2H.ps_try_onlyX (Wout := fun _ _ _ _ => False) rfl rfl ⟨rfl, by decide, .inl T.ex_PowerCut.g⟩ (fun _ => PassesOwnAt.never) takes0 (fun W pn xe tk tk2 _ => (pss_one (ps_expr (pe_gm0 T.cl_Pager (ok_Pager_commit T) (pv 3) (hr.mono (by decide)) (fun σ => L2N.passAt tk σ))))) (fun a oe cls d pn hz hf tw hc => (pss_one (ps_ret (pe_tup (pa_cons (pe_callB (r := rLenQ K) c_len (by rfl) T.z_len PySem.boot_len (pa_cons (pv 6) pa_nil)) (pa_cons pe_str pa_nil)))))))
      (pss_cons (ps_if (pt_not (pt_val (pe_g (ok__law_group_holds T) (hr.mono (by decide)) pass0S (pa_cons (pv 2) (pa_cons (pv 3) (pa_cons (pv 7) (pa_cons (pv 6) pa_nil))))))) (pss_one (ps_ret (pe_tup (pa_cons (pe_callB (r := rLenQ K) c_len (by rfl) T.z_len PySem.boot_len (pa_cons (pv 6) pa_nil)) (pa_cons pe_str pa_nil))))) pss_nil)
      (pss_cons (L2H.ps_try_onlyX (Wout := fun _ _ _ _ => False) rfl rfl ⟨rfl, by decide, .inl T.ex_PowerCut.g⟩ (fun _ => PassesOwnAt.never) takes0 (fun W pn xe tk tk2 _ => (pss_one (ps_if (pt_cmpR op_eq (pe_g (ok__law_draw T) (hr.mono (by decide)) pass0S (pa_cons (pv 0) (pa_cons (pv 1) (pa_cons pe_int pa_nil)))) pe_int (nomark _)) (pss_one (ps_expr (pe_gm0 T.cl_Pager (ok_Pager_checkpoint T) (pv 3) (hr.mono (by decide)) (fun σ => L2N.passAt tk σ)))) pss_nil))) (fun a oe cls d pn hz hf tw hc => (pss_one (ps_ret (pe_tup (pa_cons (pe_callB (r := rLenQ K) c_len (by rfl) T.z_len PySem.boot_len (pa_cons (pv 6) pa_nil)) (pa_cons pe_str pa_nil)))))))
      (pss_one (ps_ret (pe_tup (pa_cons (pe_callB (r := rLenQ K) c_len (by rfl) T.z_len PySem.boot_len (pa_cons (pv 6) pa_nil)) (pa_cons pe_str pa_nil)))))))))), ?_⟩
    walk_at "cx"
    walk_at "rd"
    refine ⟨st, sc, p, q, m, O, Od, s, MM, fv, pg, tn, i, gs, rfl, W, nm, cc, by omega, rm, ht, hd0, fun H1 O1 s1 pg' b W1 ed ec c1 dl rm1 => ?_⟩
    have hb1 := W1.b0
    obtain ⟨⟨dz, a1, a2, a3, a4, kvs, ws, DD⟩, _⟩ := id W1.pg.dv.1
    have hq := DD.o
    have m1 : s1.dev.most = pw.map (fun r => s1.dev.done + (r : Nat)) := by rw [ed]; exact hm
    have e1 : bv s1 = bv s := gpg_dir ed ec
    have cl1 : clog s1.dev = s1.dev.log := by unfold clog; rw [c1.a.st]; rfl
    have d5 := c1.kd.len
    have gl := grp_len s1.dir
    have wl : (wg (grp s1.dir)).length = 4 + 260 * s1.dir.length := by rw [wg_len c1.kd.good, gl]
    have sl : (skeys s1.dir).length = s1.dir.length := skeys_len _
    walk_at "rd"
    refine ⟨q, Od, s1.dev, rfl, W1.pg.dv.1, c1.sml (by omega), fun l1 H2 hl1 k2 e2 => ?_⟩
    have W2 := W1.pure k2
    have hb2 := W2.b0
    obtain ⟨⟨dx, a1, a2, y1, y2, DP⟩, _⟩ := id W2.pg
    have ho := DP.o
    have ll := c1.a.ll
    walk_at "rd"
    rw [List.length_map, cl1]
    refine ⟨p, q, O1, Od, s1, rfl, W2.pg, c1.pgz (by omega), by omega, fun H3 O3 Od3 P3 t3 => ?_⟩
    by_cases pwr : Pw s1.dev ((wg (grp s1.dir)).length + 1)
    · -- the commit returns
      have ey := pc_y c1 dl pwr
      have C2 := pc_c c1 (x := s1.dev.done + (wg (grp s1.dir)).length + 1)
      have v2 := pc_v c1 (x := s1.dev.done + (wg (grp s1.dir)).length + 1)
      have m2 : ({ dev := { s1.dev with done := s1.dev.done + (wg (grp s1.dir)).length + 1, log := s1.dev.log ++ wg (grp s1.dir), steps := [] }, com := coms s1.dir s1.com, dir := [] } : PgS).dev.most = s1.dev.most := rfl
      have n2 : ({ dev := { s1.dev with done := s1.dev.done + (wg (grp s1.dir)).length + 1, log := s1.dev.log ++ wg (grp s1.dir), steps := [] }, com := coms s1.dir s1.com, dir := [] } : PgS).dev.done = s1.dev.done + (wg (grp s1.dir)).length + 1 := rfl
      have g2 : clog ({ dev := { s1.dev with done := s1.dev.done + (wg (grp s1.dir)).length + 1, log := s1.dev.log ++ wg (grp s1.dir), steps := [] }, com := coms s1.dir s1.com, dir := [] } : PgS).dev = s1.dev.log ++ wg (grp s1.dir) := rfl
      have b2 : bv ({ dev := { s1.dev with done := s1.dev.done + (wg (grp s1.dir)).length + 1, log := s1.dev.log ++ wg (grp s1.dir), steps := [] }, com := coms s1.dir s1.com, dir := [] } : PgS) = gpg _ := rfl
      have d2 : ({ dev := { s1.dev with done := s1.dev.done + (wg (grp s1.dir)).length + 1, log := s1.dev.log ++ wg (grp s1.dir), steps := [] }, com := coms s1.dir s1.com, dir := [] } : PgS).dir = [] := rfl
      rw [ey] at P3 ⊢
      rw [if_pos rfl]
      generalize ({ dev := { s1.dev with done := s1.dev.done + (wg (grp s1.dir)).length + 1, log := s1.dev.log ++ wg (grp s1.dir), steps := [] }, com := coms s1.dir s1.com, dir := [] } : PgS) = s2 at *
      have W3 := W2.pager P3 t3
      have hb3 := W3.b0
      walk_at "rd"
      refine ⟨p, q, b, O3, Od3, s2, s1.dev.log, grp s1.dir, rfl, W3.pg, C2.sml (by omega), g2, c1.kd.good, by rw [grp_keys]; exact hb3, fun x hx => ?_, fun H4 k4 => ?_⟩
      · unfold grp at hx
        obtain ⟨n, hn, rfl⟩ := List.mem_map.mp hx
        obtain ⟨ds, hds, _⟩ := mem_skeys hn
        rw [v2, gpg_w c1.a.w, hds]; rfl
      have W4 := W3.pure k4
      have pw_le : ∀ r, pw = some r → (wg (grp s1.dir)).length + 1 ≤ r := fun r e => by
        have y := pwr (s1.dev.done + (r : Nat)) (by rw [m1, e]; rfl)
        omega
      walk_at "rd"
      refine ⟨st, sc, 2, rfl, by decide, by decide, W4.dr, fun y H5 y0 y1 dr5 k5 => ?_⟩
      have W5 := W4.draw k5 dr5
      walk_at "rd"
      refine ite_dec (fun e => ?_) fun e => ?_
      · obtain ⟨⟨dx, a1, a2, y1, y2, DP5⟩, _⟩ := id W5.pg
        have ho5 := DP5.o
        walk_at "rd"
        refine ⟨p, q, O3, Od3, s2, rfl, W5.pg, C2.ckz (by omega), fun H6 O6 Od6 P6 t6 => ?_⟩
        by_cases pw2 : Pw s2.dev (s2.com.length + 3)
        · have C3 := ck_c C2 (x := s2.dev.done + s2.com.length + 1 + 1 + 1) (m := s2.dev.most)
          have v3 := ck_v C2 (x := s2.dev.done + s2.com.length + 1 + 1 + 1) (m := s2.dev.most)
          rw [ck_y C2 pw2] at P6 ⊢
          rw [if_pos rfl]
          have W6 := W5.pager P6 t6
          have hb6 := W6.b0
          walk_at "rd"
          rw [List.length_map, sl]
          refine x_newT fun t H7 ht7 k7 e7 => ?_
          refine k H7 O6 Od6 _ pg' t s1.dir.length _ (gpg s1) (W6.wp.pure k7) e7 d5 rm1 (.inr (.inr ⟨rfl, ?_, fun r er => ?_, [], C3, d2, v3.trans v2⟩))
          · show _ ≤ s2.dev.done + (s2.com.length : Int) + 1 + 1 + 1
            rw [n2, wl, ed]; omega
          · have y := pw2 (s1.dev.done + (r : Nat)) (by rw [m2, m1, er]; rfl)
            show s2.dev.done + (s2.com.length : Int) + 1 + 1 + 1 ≤ _
            rw [← ed]; omega
        · obtain ⟨r, er, lr⟩ : ∃ r : Nat, s2.dev.most = some (s2.dev.done + (r : Nat)) ∧ r < s2.com.length + 3 := by
            cases pw with
            | none => exact absurd (fun x z => by rw [m2, m1] at z; cases z) pw2
            | some r =>
              have l := pw_le r rfl
              refine ⟨r - ((wg (grp s1.dir)).length + 1), ?_, ?_⟩
              · rw [m2, m1, n2]; refine congrArg some ?_; show s1.dev.done + (r : Int) = _; omega
              · by_cases q : r - ((wg (grp s1.dir)).length + 1) < s2.com.length + 3
                · exact q
                · exact absurd (fun x z => by rw [m2, m1] at z; have y : s1.dev.done + (r : Int) = x := Option.some.inj z; rw [n2]; omega) pw2
          obtain ⟨d', en, nd, cu⟩ := ck_n C2 (by omega) er lr
          rw [en] at P6 ⊢
          rw [if_neg Bool.false_ne_true]
          refine ⟨true, hex, fun _ a ha => ?_, fun z => by cases z⟩
          have W6 := W5.pager P6 t6
          have hb6 := W6.b0
          walk_at "rd"
          rw [List.length_map, sl]
          refine x_newT fun t H7 ht7 k7 e7 => ?_
          have er' : ∃ r', pw = some r' := by
            cases pw with
            | none => rw [m2, m1] at er; cases er
            | some r' => exact ⟨r', rfl⟩
          obtain ⟨r', er'⟩ := er'
          have l' := pw_le r' er'
          have q' : s2.dev.done + (r : Int) = s1.dev.done + (r' : Int) := by
            rw [m2, m1, er'] at er
            exact (Option.some.inj er).symm
          refine k H7 O6 Od6 _ pg' t s1.dir.length _ (gpg s1) (W6.wp.pure k7) e7 d5 rm1 (.inr (.inl ⟨rfl, r', er', ?_, by omega, ?_⟩))
          · show d'.done = _
            rw [nd, q', ed]
          · rw [← C2.bv, b2, v2] at cu; exact cu
      · have hb5 := W5.b0
        walk_at "rd"
        rw [List.length_map, sl]
        refine x_newT fun t H7 ht7 k7 e7 => ?_
        refine k H7 O3 Od3 s2 pg' t s1.dir.length _ (gpg s1) (W5.wp.pure k7) e7 d5 rm1 (.inr (.inr ⟨rfl, ?_, fun r er => ?_, _, C2, d2, v2⟩))
        · rw [n2, wl, ed]; omega
        · have l := pw_le r er
          rw [n2, ed]; omega
    · -- it is cut off
      obtain ⟨r, hr1, hr2⟩ : ∃ r : Nat, pw = some r ∧ r ≤ (wg (grp s1.dir)).length := by
        cases pw with
        | none => exact absurd (fun x z => by rw [m1] at z; cases z) pwr
        | some r =>
          refine ⟨r, rfl, ?_⟩
          by_cases q : r ≤ (wg (grp s1.dir)).length
          · exact q
          · exact absurd (fun x z => by rw [m1] at z; have y : s1.dev.done + (r : Int) = x := Option.some.inj z; omega) pwr
      have mr : s1.dev.most = some (s1.dev.done + (r : Nat)) := by rw [m1, hr1]; rfl
      have en := pc_n c1 dl mr hr2
      have cr := fun fs kept hk => pc_cr c1 dl hr2 (x := s1.dev.done + (r : Nat)) fs kept hk
      rw [en] at P3 ⊢
      rw [if_neg Bool.false_ne_true]
      refine ⟨true, hex, fun _ a ha => ?_, fun z => by cases z⟩
      have W3 := W2.pager P3 t3
      have hb3 := W3.b0
      walk_at "rd"
      rw [List.length_map, sl]
      refine x_newT fun t H7 ht7 k7 e7 => ?_
      have sm := c1.sml (by omega)
      have lst : (((wg (grp s1.dir)).take r).map some).length = r := by rw [List.length_map, List.length_take]; omega
      refine k H7 O3 Od3 _ pg' t s1.dir.length _ (gpg s1) (W3.wp.pure k7) e7 d5 rm1 (.inl ⟨rfl, r, hr1, by show s1.dev.done + _ = _; rw [ed], ⟨sm.1, sm.2.1, ?_, sm.2.2.2.1, sm.2.2.2.2⟩, ?_, ?_, fun fs kept hk => ?_⟩)
      · show s1.dev.log.length + (((wg (grp s1.dir)).take r).map some).length ≤ _
        rw [lst]; omega
      · show s1.dev.writes.length ≤ 5
        rw [c1.a.w]; exact Nat.zero_le _
      · show (((wg (grp s1.dir)).take r).map some).length ≤ _
        rw [lst]; omega
      · have hk' : kept ≤ r := by rw [← lst]; exact hk
        obtain ⟨gs', more', j', a6, ev⟩ := cr fs kept hk'
        rw [wl, e1] at ev
        exact ⟨gs', more', j', a6, ev⟩
end
theorem RM.cn {v : Int → List Int} {f : Int} {pg : Int → List Int} (h : RM v f pg) (z : (v 0).length = 256) : RM (vcn v) f pg := by
  unfold vcn
  split
  · refine ⟨?_, fun n n0 n1 => ?_⟩
    · rw [vset_vf (by decide) (by decide) (by rw [z]; decide), if_neg (by decide)]; exact h.1
    · unfold vset vput; rw [if_neg (by omega)]; exact h.2 n n0 n1
  · exact h
theorem PagAt.devS {c : Cl} {H H' : Hp} {p q : Addr} {O Od Od' : Addr → Prop} {s : PgS} {d' : DevS} (h : PagAt c H p q O Od s) (V : DevAt c H' q Od' d') (t : Stp Od Od' H H') : ∃ O', PagAt c H' p q O' Od' { s with dev := d' } ∧ Stp O O' H H' := by
  obtain ⟨O1, dx, a1, a2, k1, k2, eO, D, og⟩ := h.opn
  have D' := D.dev V t (fun b hb => by rw [eO]; exact .inr hb)
  exact ⟨nO O H H', D'.clo eO, Stp.nO t.kp h.dv.2⟩
section
variable {c : Cl} {K : PySem.W.Frag} {H H' : Hp} {st sc p q m mk : Addr} {O Od Od' : Addr → Prop} {s : PgS} {d' : DevS} {MM : List ME}
theorem WP.devS (h : WP c K H st sc p q O Od s MM) (V : DevAt c H' q Od' d') (t : Stp Od Od' H H') : ∃ O', WP c K H' st sc p q O' Od' { s with dev := d' } MM := by
  obtain ⟨O', P, w⟩ := h.pg.devS V t
  exact ⟨O', h.pager P w⟩
/-- a copy of a dict -/
theorem WP.dup {f : Int} {pg : Int → List Int} (h : WP c K H st sc p q O Od s [(mk, f, pg)]) (hm : H m = none) (k : Kp F0 H H') (e : ∀ ks, H mk = some (.dK ks) → H' m = some (.dK ks)) : WP c K H' st sc p q O Od s [(m, f, pg), (mk, f, pg)] := by
  have y := h.pure k
  obtain ⟨ad, h1, h2, h3, h4, h5⟩ := h.md _ (List.mem_singleton_self _)
  refine ⟨y.dr, y.pg, y.s1, fun x hx => ?_⟩
  rcases List.mem_cons.mp hx with rfl | hx
  · exact ⟨ad, e _ h1, h.pg.fresh hm, h.dr.new hm, fun n a b => k.get (h4 n a b) id, h5⟩
  · exact y.md x hx
end
theorem if_both {b : Bool} {A B : Prop} (h : B) (g : b = true → B → A) : if b = true then A else B := by
  cases b
  · exact h
  · exact g rfl h
theorem x_notO {H : Hp} {Q : VK} (o : Option Int) (q : Q (.bl o.isSome) H) : rNotNQ (oV o) .non H Q := by
  cases o
  · exact x_notNn q
  · exact x_notNi q
theorem x_neR {K : PySem.W.Frag} {H : Hp} {Q : VK} {O : Addr → Prop} {st a mk : Addr} {s : PgS} {f : Int} {pg : Int → List Int} {ad : Int → Addr} (ha : H a = some (.dK (kd (fld s 3) ad))) (pa : Pg4 H ad (gpg s)) (m : Md H O st (mk, f, pg)) (r : RM (gpg s) f pg) (q : Q (.bl false) H) : rNeV K (.ref a) (.ref mk) H Q := by
  obtain ⟨ad', h', _, _, p', _⟩ := m
  have e : fld s 3 = f := (fld_vf s 3).trans r.1
  rw [e] at ha
  exact x_neM ha h' (fun n n0 n1 => by rw [pa n n0 n1, r.2 n n0 n1]) p' q
theorem bv_cnth {s : PgS} (h : s.dir = []) : bv (cnth s) = gpg s := by
  have : bv (cnth s) = bv s := by unfold cnth; split <;> rfl
  rw [this]; unfold bv; rw [← h]
theorem cr_of {i : Nat} {s : PgS} {gs : List (List (Int × List Int))} (h : C6 i s gs [] 0) (hi : i ≤ 100) (e : s.dir = []) : Cut i s.dev (gpg s) := by
  have z := h.a.cut hi
  have b : bv s = gpg s := by unfold bv; rw [← e]
  rw [← h.bv, b] at z; exact z
section
variable {P : Program} {w : World} {K : PySem.W.Frag} {mg : Str → Option Value} {base : Heap} {c : Cl}
theorem ok_law {f : Addr} {fd : FuncData} (F : Fun K "law" "law" s_law f fd) (T : Txt K mg c) : FnOk P w K mg base CX0 9 f fd ["_law_script"] (sp_law K) := by
  have tc_Device := T.cl_Device; have tn_Device_pages := T.n_Device_pages; have tn_Device_page_writes := T.n_Device_page_writes; have tn_Device_durable_log := T.n_Device_durable_log; have tn_Device_log_steps := T.n_Device_log_steps; have tn_Device_done := T.n_Device_done; have tn_Device_most := T.n_Device_most
  have tc_Pager := T.cl_Pager; have tn_Pager_device := T.n_Pager_device; have tn_Pager_committed := T.n_Pager_committed; have tn_Pager_dirty := T.n_Pager_dirty
  refine F.ok sc_law ?_ (fun cdv A outer s H vs Q E hr h => ?_)
  · rintro vs H Q E ⟨_, _, rfl, _⟩
    rfl
  · obtain ⟨sc, ns, rfl, hsc, hlen, k⟩ := h
    refine ⟨_, (pss_cons (ps_set (i := 1) sc_law.nd rfl (Or.inl rfl) (pe_lst (pa_cons pe_int (pa_cons pe_int pa_nil))))
      (pss_cons (ps_set (i := 2) sc_law.nd rfl (Or.inl rfl) (pe_gc0 (mk_Device T) (hr.mono (by decide)) pass0S))
      (pss_cons (ps_set (i := 3) sc_law.nd rfl (Or.inl rfl) (pe_gc (mk_Pager T) (hr.mono (by decide)) passNN (pa_cons (pv 2) pa_nil)))
      (pss_cons (ps_set (i := 4) sc_law.nd rfl (Or.inl rfl) (pe_disp (pps_cons pe_int pe_int (pps_cons pe_int (pe_op op_rep (pe_lst (pa_cons pe_int pa_nil)) pe_int) (pps_cons pe_int (pe_op op_rep (pe_lst (pa_cons pe_int pa_nil)) pe_int) (pps_cons pe_int (pe_op op_rep (pe_lst (pa_cons pe_int pa_nil)) pe_int) (pps_cons pe_int (pe_op op_rep (pe_lst (pa_cons pe_int pa_nil)) pe_int) pps_nil))))) (by rfl) (by rfl) (fun z => by cases z) (by decide)))
      (pss_cons (ps_for PassesOwn.never rfl (pi_range1 (by rfl) T.z_range (pa_cons (pe_g (ok__law_draw T) (hr.mono (by decide)) pass0S (pa_cons (pv 1) (pa_cons (pv 0) (pa_cons pe_int pa_nil)))) pa_nil)) (pg_name (i := 5) sc_law.nd rfl (Or.inl rfl)) (pss_cons (ps_set (i := 6) sc_law.nd rfl (Or.inl rfl) (pe_ix (r := rIxL K) ix_list (pe_lst (pa_cons pe_non (pa_cons (pe_g (ok__law_draw T) (hr.mono (by decide)) pass0S (pa_cons (pv 1) (pa_cons (pv 0) (pa_cons pe_int pa_nil)))) (pa_cons (pe_g (ok__law_draw T) (hr.mono (by decide)) pass0S (pa_cons (pv 1) (pa_cons (pv 0) (pa_cons pe_int pa_nil)))) pa_nil)))) (pe_g (ok__law_draw T) (hr.mono (by decide)) pass0S (pa_cons (pv 1) (pa_cons (pv 0) (pa_cons pe_int pa_nil)))) (fun _ _ => rfl)))
      (pss_cons (ps_expr (pe_gm T.cl_Device (ok_Device_limit T) (pv 2) (hr.mono (by decide)) pass0S (pa_cons (pv 6) pa_nil)))
      (pss_cons (ps_set (i := 7) sc_law.nd rfl (Or.inl rfl) (pe_gm0 T.cl_Device (ok_Device_steps T) (pv 2) (hr.mono (by decide)) pass0S))
      (pss_cons (ps_set (i := 8) sc_law.nd rfl (Or.inl rfl) (pe_callTy c_dictD (by rfl) T.z_dict (by decide +kernel) (pa_cons (pv 4) pa_nil)))
      (pss_cons (ps_asg (pe_g (ok__law_round T) (hr.mono (by decide)) pass0S (pa_cons (pv 1) (pa_cons (pv 0) (pa_cons (pv 2) (pa_cons (pv 3) (pa_cons (pv 8) (pa_cons (pv 5) pa_nil))))))) (pg_kT rfl (pg_tup (n := 2) rfl (pgs_cons (pg_name (i := 9) sc_law.nd rfl (Or.inl rfl)) (pgs_cons (pg_name (i := 10) sc_law.nd rfl (Or.inl rfl)) pgs_nil)))))
      (pss_cons (ps_set (i := 11) sc_law.nd rfl (Or.inl rfl) (pe_op op_sub (pe_gm0 T.cl_Device (ok_Device_steps T) (pv 2) (hr.mono (by decide)) pass0S) (pv 7)))
      (pss_cons (ps_if (PW.pt (pw_or (pt_cmpR op_eq (pv 10) pe_str (nomark _)) (pw_or1 (PW.pt (pw_and (pt_cmpR (r := rIn K false) op_in_seq (pv 10) (pe_tup (pa_cons pe_str (pa_cons pe_str pa_nil))) rfl) (pw_and1 (PW.pt (pw_or (pt_cmpR o_isN (pv 6) pe_non (nomark _)) (pw_or1 (pt_cmpR op_ne (pv 11) (pv 6) (nomark _))))))))))) (pss_one (ps_ret pe_bl)) pss_nil)
      (pss_cons (ps_if (PW.pt (pw_or (PW.pt (pw_and (pt_cmpR op_ne (pv 10) pe_str (nomark _)) (pw_and1 (pt_cmpR op_lt (pv 11) (pe_op op_add pe_int (pe_op op_mul pe_int (pv 9))) (nomark _))))) (pw_or1 (PW.pt (pw_and (pt_cmpR o_notN (pv 6) pe_non (nomark _)) (pw_and1 (pt_cmpR op_gt (pv 11) (pv 6) (nomark _)))))))) (pss_one (ps_ret pe_bl)) pss_nil)
      (C8.pss_cut (ps_if (pt_cmpR op_ne (pv 10) pe_str (nomark _)) (pss_one (ps_set (i := 4) sc_law.nd rfl (Or.inl rfl) (pv 8))) pss_nil)
      (C8.pss_cut (ps_if (PW.pt (pw_or (pt_cmpR op_ne (pv 10) pe_str (nomark _)) (pw_or1 (pt_cmpR op_eq (pe_g (ok__law_draw T) (hr.mono (by decide)) pass0S (pa_cons (pv 1) (pa_cons (pv 0) (pa_cons pe_int pa_nil)))) pe_int (nomark _))))) (pss_cons (ps_set (i := 12) sc_law.nd rfl (Or.inl rfl) (pe_g (ok__law_crash T) (hr.mono (by decide)) pass0S (pa_cons (pv 1) (pa_cons (pv 0) (pa_cons (pv 2) pa_nil)))))
      (C8.pss_cut (ps_if (PW.pt (pw_and (pt_cmpR op_eq (pv 10) pe_str (nomark _)) (pw_and1 (pt_cmpR op_ge (pv 12) (pe_op op_add pe_int (pe_op op_mul pe_int (pv 9))) (nomark _))))) (pss_one (ps_set (i := 4) sc_law.nd rfl (Or.inl rfl) (pv 8))) pss_nil)
      (pss_cons (ps_set (i := 3) sc_law.nd rfl (Or.inl rfl) (pe_g (ok__law_opened T) (hr.mono (by decide)) pass0S (pa_cons (pv 1) (pa_cons (pv 0) (pa_cons (pv 2) pa_nil)))))
      (pss_one (ps_if (PW.pt (pw_or (pt_cmpR o_isN (pv 3) pe_non (nomark _)) (pw_or1 (pt_cmpR (r := rNeV K) (op_neV hr.units) (pe_g (ok__law_shown T) (hr.mono (by decide)) pass0S (pa_cons (pv 3) pa_nil)) (pv 4) (nomark _))))) (pss_one (ps_ret pe_bl)) pss_nil))))) pss_nil)
      (pss_cons (ps_expr (pe_gm T.cl_Device (ok_Device_limit T) (pv 2) (hr.mono (by decide)) pass0S (pa_cons pe_non pa_nil)))
      (pss_cons (ps_if (pt_cmpR (r := rNeV K) (op_neV hr.units) (pe_g (ok__law_shown T) (hr.mono (by decide)) pass0S (pa_cons (pv 3) pa_nil)) (pv 4) (nomark _)) (pss_one (ps_ret pe_bl)) pss_nil)
      (pss_one (ps_if (pt_cmpR op_eq (pe_g (ok__law_draw T) (hr.mono (by decide)) pass0S (pa_cons (pv 1) (pa_cons (pv 0) (pa_cons pe_int pa_nil)))) pe_int (nomark _)) (pss_cons (ps_set (i := 3) sc_law.nd rfl (Or.inl rfl) (pe_gc (mk_Pager T) (hr.mono (by decide)) passNN (pa_cons (pv 2) pa_nil)))
      (pss_one (ps_if (PW.pt (pw_or (pt_cmpR (r := rNeD K) (op_neD hr.units) (pe_gm0 T.cl_Device (ok_Device_log T) (pv 2) (hr.mono (by decide)) pass0S) (pe_lst pa_nil) (nomark _)) (pw_or (pt_cmpR (r := rNeD K) (op_neD hr.units) (pe_gm0 T.cl_Device (ok_Device_pending T) (pv 2) (hr.mono (by decide)) pass0S) (pe_tup (pa_cons pe_int (pa_cons pe_int pa_nil))) (nomark _)) (pw_or1 (pt_cmpR (r := rNeV K) (op_neV hr.units) (pe_g (ok__law_shown T) (hr.mono (by decide)) pass0S (pa_cons (pv 3) pa_nil)) (pv 4) (nomark _)))))) (pss_one (ps_ret pe_bl)) pss_nil))) pss_nil)))))))))))))))
      (pss_one (ps_ret pe_bl))))))), ?_⟩
    walk_at "cx"
    walk_at "rd"
    refine x_newL fun st H1 hst k1 e1 => ?_
    have dr1 : Dr K H1 st sc := ⟨0, 0, ns, by decide, by decide, e1, hlen, hsc.kp k1⟩
    walk_at "rd"
    intro q dx hq hdx nd
    have km : Kp F0 H1 (upd (upd H1 dx (.own q)) q (.ins c.Device dx [])) := (Kp.new hdx).trans (Kp.new (by rw [upd_ne nd.symm]; exact hq)) fun _ z => z.elim
    refine ⟨q, dx, rfl, upd_same, fun H2 Od hD2 k2 o2 => ⟨rfl, ?_⟩⟩
    have nsq : st ≠ q := ne_of_none e1 hq
    have k12 : Kp F0 H1 H2 := km.trans k2 fun x z => .inr (by rw [z]; exact hq)
    have sod : ¬ Od st := fun z => by
      rcases o2 st z with e | e
      · exact nsq e
      · rw [km.get e1 id] at e; cases e
    have W2 : WD c K H2 st sc q Od ⟨[], [], [], [], 0, none⟩ [] := ⟨dr1.kp k12 id, hD2, sod, fun x z => by cases z⟩
    have a2 : A6 0 ⟨[], [], [], [], 0, none⟩ [] [] 0 := ⟨rfl, rfl, rfl, by decide, fun g z => (by cases z), fun g z => (by cases z), fun g z => (by cases z), good_nil, Nat.zero_le _, K5.nil, Nat.le_refl _⟩
    walk_at "rd"
    intro p dy hp hdy ndy
    refine open_step W2 a2 (by decide) (.inl rfl) hp hdy ndy (fun H3 O Od3 s1 W3 c3 d3 v3 m3 => ⟨rfl, ?_⟩) fun H5 O5 Od5 s1 r W5 m5 n5 cu => by cases m5
    have b3 : bv (cnth s1) = gpg s1 := by
      have : bv (cnth s1) = bv s1 := by unfold cnth; split <;> rfl
      rw [this]; unfold bv; rw [← d3]
    have g3 : RM (gpg s1) 0 (fun _ => zeros) := by
      rw [v3]
      exact ⟨by decide +kernel, fun n _ _ => rfl⟩
    walk_at "rd"
    intro mk hmk
    have kdz : Kp F0 H3 (upd H3 mk (.dK [])) := Kp.new hmk
    refine x_pc ?_
    walk_at "rd"
    refine x_pc ?_
    walk_at "rd"
    refine x_newL fun z1 H4 hz1 k4 e4 => ?_
    walk_at "rd"
    refine x_rep e4 (by decide) (by decide) fun a1 H5 ha1 k5 e5 => ?_
    refine x_pc ?_
    walk_at "rd"
    refine x_newL fun z2 H6 hz2 k6 e6 => ?_
    walk_at "rd"
    refine x_rep e6 (by decide) (by decide) fun a2' H7 ha2 k7 e7 => ?_
    refine x_pc ?_
    walk_at "rd"
    refine x_newL fun z3 H8 hz3 k8 e8 => ?_
    walk_at "rd"
    refine x_rep e8 (by decide) (by decide) fun a3 H9 ha3 k9 e9 => ?_
    refine x_pc ?_
    walk_at "rd"
    refine x_newL fun z4 H10 hz4 k10 e10 => ?_
    walk_at "rd"
    refine x_rep e10 (by decide) (by decide) fun a4 H11 ha4 k11 e11 => ?_
    refine x_pn ?_
    have k45 := k4.trans k5 fun _ z => z.elim
    have k57 := k6.trans k7 fun _ z => z.elim
    have k79 := k8.trans k9 fun _ z => z.elim
    have k911 := k10.trans k11 fun _ z => z.elim
    have kz : Kp F0 (upd H3 mk (.dK [])) H11 := ((k45.trans k57 fun _ z => z.elim).trans k79 fun _ z => z.elim).trans k911 fun _ z => z.elim
    have em : H11 mk = some (.dK []) := kz.get upd_same id
    refine ⟨em, kd 0 (fun n => if n = 1 then a1 else if n = 2 then a2' else if n = 3 then a3 else a4), rfl, Nat.le_of_ble_eq_true rfl, ?_⟩
    rw [show mergeK [] (kd 0 (fun n => if n = 1 then a1 else if n = 2 then a2' else if n = 3 then a3 else a4)) = kd 0 (fun n => if n = 1 then a1 else if n = 2 then a2' else if n = 3 then a3 else a4) from rfl]
    have zz : List.replicate (256 : Int).toNat (V.int 0) = zeros.map V.int := by unfold zeros; rw [List.map_replicate]; rfl
    rw [zz] at e5 e7 e9 e11
    have e5' := k911.get (k79.get (k57.get e5 id) id) id
    have e7' := k911.get (k79.get e7 id) id
    have e9' := k911.get e9 id
    have m0 : (upd H3 mk (.dK []) : Hp) mk = some (.dK []) := upd_same
    have n1 : a1 ≠ mk := (ne_of_none (k4.get m0 id) ha1).symm
    have n2 : a2' ≠ mk := (ne_of_none (k6.get (k45.get m0 id) id) ha2).symm
    have n3 : a3 ≠ mk := (ne_of_none (k8.get (k57.get (k45.get m0 id) id) id) ha3).symm
    have n4 : a4 ≠ mk := (ne_of_none (k10.get (k79.get (k57.get (k45.get m0 id) id) id) id) ha4).symm
    have f1 : H3 a1 = none := kdz.free (k4.free ha1 id) id
    have f2 : H3 a2' = none := kdz.free (k45.free (k6.free ha2 id) id) id
    have f3 : H3 a3 = none := kdz.free (k45.free (k57.free (k8.free ha3 id) id) id) id
    have f4 : H3 a4 = none := kdz.free (k45.free (k57.free (k79.free (k10.free ha4 id) id) id) id) id
    have kf : Kp F0 H3 (upd H11 mk (.dK (kd 0 (fun n => if n = 1 then a1 else if n = 2 then a2' else if n = 3 then a3 else a4)))) := fun b o hb _ => by
      rw [upd_ne (ne_of_none hb hmk)]; exact kz.get (kdz.get hb id) id
    have W4 : WP c K (upd H11 mk (.dK (kd 0 (fun n => if n = 1 then a1 else if n = 2 then a2' else if n = 3 then a3 else a4)))) st sc p q O Od3 (cnth s1) [(mk, 0, fun _ => zeros)] := by
      refine ⟨W3.dr.kp kf id, W3.pg.same kf, W3.s1, fun x hx => ?_⟩
      rw [List.mem_singleton.mp hx]
      refine ⟨fun n => if n = 1 then a1 else if n = 2 then a2' else if n = 3 then a3 else a4, upd_same, W3.pg.fresh hmk, W3.dr.new hmk, fun n q0 q1 => ?_, fun n q0 q1 => ?_⟩
      · rcases (by omega : n = 1 ∨ n = 2 ∨ n = 3 ∨ n = 4) with rfl | rfl | rfl | rfl
        · exact (upd_ne n1).trans e5'
        · exact (upd_ne n2).trans e7'
        · exact (upd_ne n3).trans e9'
        · exact (upd_ne n4).trans e11
      · rcases (by omega : n = 1 ∨ n = 2 ∨ n = 3 ∨ n = 4) with rfl | rfl | rfl | rfl
        · exact ⟨W3.pg.fresh f1, W3.dr.new f1⟩
        · exact ⟨W3.pg.fresh f2, W3.dr.new f2⟩
        · exact ⟨W3.pg.fresh f3, W3.dr.new f3⟩
        · exact ⟨W3.pg.fresh f4, W3.dr.new f4⟩
    generalize upd H11 mk (.dK (kd 0 (fun n => if n = 1 then a1 else if n = 2 then a2' else if n = 3 then a3 else a4))) = H12 at W4
    walk_at "rd"
    refine ⟨st, sc, 7, rfl, by decide, by decide, W4.dr, fun dm H13 y0 y1 dr13 k13 => ?_⟩
    have W5 := W4.draw k13 dr13
    walk_at "rd"
    refine wfor Wk.rng (fun i σ H' => ∃ u5 u6 u7 u8 u9 u10 u11 u12 p mk O Od s f pg gs, σ = [some (.ref sc), some (.ref st), some (.ref q), some (.ref p), some (.ref mk), u5, u6, u7, u8, u9, u10, u11, u12] ∧ WP c K H' st sc p q O Od s [(mk, f, pg)] ∧ C6 i s gs [] 0 ∧ s.dev.most = none ∧ (s.dir.map (·.1) = [] ∨ s.dir.map (·.1) = [0]) ∧ RM (gpg s) f pg ∧ RM (bv s) f pg)
      ⟨none, none, none, none, none, none, none, none, p, mk, O, Od3, cnth s1, 0, fun _ => zeros, [], rfl, W5, c3.cn, by rw [cnth_dev, m3], cnth_keys d3, by rw [gpg_cnth]; exact g3.cn (c3.z 0), by rw [b3]; exact g3⟩ (fun _ _ _ _ => trivial) ?_ ?_
    · rintro i x σ H14 ex ⟨u5, u6, u7, u8, u9, u10, u11, u12, p, mk, O, Od, s, f, pg, gs, rfl, W, cc, mm, dk, rg, rb⟩
      obtain ⟨hi, rfl⟩ := rgl_at ex
      have hi6 : i < 6 := by have : i < dm.toNat := hi; omega
      rw [Int.zero_add]
      walk_at "rd"
      refine ⟨st, sc, 2000, rfl, by decide, by decide, W.dr, fun v1 H15 z0 z1 dr15 k15 => ?_⟩
      have W1 := W.draw k15 dr15
      walk_at "rd"
      refine ⟨st, sc, 12, rfl, by decide, by decide, W1.dr, fun v2 H16 z2 z3 dr16 k16 => ?_⟩
      have W2 := W1.draw k16 dr16
      walk_at "rd"
      refine x_newL fun l1 H17 hl1 k17 e17 => ?_
      have W3 := W2.pure k17
      obtain ⟨_, hst16⟩ := W2.dr.trk
      walk_at "rd"
      refine ⟨st, sc, 3, rfl, by decide, by decide, W3.dr, fun y H18 z4 z5 dr18 k18 => ?_⟩
      have W4 := W3.draw k18 dr18
      have e18 := k18.get e17 (ne_of_none hst16 hl1).symm
      obtain ⟨pw, hpw⟩ : ∃ pw : Option Nat, atI [V.non, .int v1, .int v2] y = some (oV (pw.map fun r : Nat => (r : Int))) := by
        rcases (by omega : y = 0 ∨ y = 1 ∨ y = 2) with rfl | rfl | rfl
        · exact ⟨none, rfl⟩
        · exact ⟨some v1.toNat, by show some (V.int v1) = some (V.int ((v1.toNat : Nat) : Int)); rw [Int.toNat_of_nonneg z0]⟩
        · exact ⟨some v2.toNat, by show some (V.int v2) = some (V.int ((v2.toNat : Nat) : Int)); rw [Int.toNat_of_nonneg z2]⟩
      refine x_ixL (SqL.of e18) hpw ?_
      have V4 := W4.dev
      obtain ⟨⟨dz, c1, c2, c3', c4, kvs, ws, DD⟩, _⟩ := id V4.dv
      have hq18 := DD.o
      walk_at "rd"
      refine ⟨q, Od, s.dev, pw.map fun r : Nat => (r : Int), rfl, V4.dv, fun H19 Od19 V19 t19 => ?_⟩
      obtain ⟨O19, W5⟩ := W4.devS V19 t19
      have c5 := cc.lim (pw.map fun r : Nat => (r : Int))
      have g5 : gpg { s with dev := dLimit (pw.map fun r : Nat => (r : Int)) s.dev } = gpg s := rfl
      have b5 : bv { s with dev := dLimit (pw.map fun r : Nat => (r : Int)) s.dev } = bv s := rfl
      have m5 : ({ s with dev := dLimit (pw.map fun r : Nat => (r : Int)) s.dev } : PgS).dev.most = pw.map (fun r => s.dev.done + (r : Nat)) := by
        show (pw.map fun r : Nat => (r : Int)).map (fun z => s.dev.done + z) = _
        cases pw <;> rfl
      have n5 : ({ s with dev := dLimit (pw.map fun r : Nat => (r : Int)) s.dev } : PgS).dev.done = s.dev.done := rfl
      have r5 : ({ s with dev := dLimit (pw.map fun r : Nat => (r : Int)) s.dev } : PgS).dir = s.dir := rfl
      generalize ({ s with dev := dLimit (pw.map fun r : Nat => (r : Int)) s.dev } : PgS) = s5 at W5 c5 g5 b5 m5 n5 r5
      rw [← n5] at m5
      rw [← g5] at rg
      rw [← b5] at rb
      rw [← r5] at dk
      obtain ⟨⟨dz, c1, c2, c3', c4, kvs, ws, DD5⟩, _⟩ := id W5.dev.dv
      have hq19 := DD5.o
      walk_at "rd"
      refine ⟨q, Od19, s5.dev, rfl, W5.dev.dv, ?_⟩
      obtain ⟨ad, hmk, _, _, _, _⟩ := W5.md _ (List.mem_singleton_self _)
      walk_at "rd"
      refine x_dictD hmk fun m H20 hm20 k20 e20 => ?_
      have W6 : WP c K H20 st sc p q O19 Od19 s5 [(m, f, pg), (mk, f, pg)] := W5.dup hm20 k20 fun ks hks => by rw [hmk] at hks; cases hks; exact e20
      have nmk : ∀ x ∈ [((mk, f, pg) : ME)], x.1 ≠ m := fun x hx => by rw [List.mem_singleton.mp hx]; exact ne_of_none hmk hm20
      walk_at "rd"
      refine ⟨st, sc, p, q, m, O19, Od19, s5, [(mk, f, pg)], f, pg, i, i, gs, pw, rfl, W6, nmk, c5, by omega, rg, by omega, dk, m5, fun H21 O21 Od21 s6 pg6 t n word v6 W7 et n6 rm6 r6 => ?_⟩
      obtain ⟨⟨dz, c1, c2, c3', c4, kvs, ws, DD7⟩, _⟩ := id W7.dev.dv
      have hq21 := DD7.o
      walk_at "rd"
      refine ⟨q, Od21, s6.dev, rfl, W7.dev.dv, ?_⟩
      have hw0 : word ≠ "wrong" := by rcases r6 with ⟨rfl, _⟩ | ⟨rfl, _⟩ | ⟨rfl, _⟩ <;> decide
      have hin : word = "cut" ∨ word = "late" → ∃ r : Nat, pw = some r ∧ s6.dev.done - s5.dev.done = (r : Int) := fun z => by
        rcases r6 with ⟨rfl, r, e, d, _⟩ | ⟨rfl, r, e, d, _⟩ | ⟨rfl, _⟩
        · exact ⟨r, e, by omega⟩
        · exact ⟨r, e, by omega⟩
        · rcases z with z | z <;> exact absurd z (by decide)
      have hus : word ≠ "cut" → 5 + 260 * (n : Int) ≤ s6.dev.done - s5.dev.done := fun z => by
        rcases r6 with ⟨rfl, _⟩ | ⟨rfl, r, e, d, l, _⟩ | ⟨rfl, l, _⟩
        · exact absurd rfl z
        · omega
        · omega
      have hle : ∀ r : Nat, pw = some r → s6.dev.done - s5.dev.done ≤ (r : Int) := fun r z => by
        rcases r6 with ⟨rfl, r', e, d, _⟩ | ⟨rfl, r', e, d, _⟩ | ⟨rfl, _, l, _⟩
        · rw [z] at e; cases e; omega
        · rw [z] at e; cases e; omega
        · have := l r z; omega
      have hst : word = "stands" → ∃ gs, C6 (i + 1) s6 gs [] 0 ∧ s6.dir = [] ∧ gpg s6 = v6 := fun z => by
        rcases r6 with ⟨rfl, _⟩ | ⟨rfl, _⟩ | ⟨rfl, _, _, h⟩
        · exact absurd z (by decide)
        · exact absurd z (by decide)
        · exact h
      have hsc : (Sml s6.dev ∧ s6.dev.writes.length ≤ 5 ∧ s6.dev.steps.length ≤ 100000) ∧ ∀ fs kept, kept ≤ s6.dev.steps.length → ∃ gs more j, A6 (i + 1) (dCrash fs kept s6.dev) gs more j ∧ ((¬ word = "cut" ∨ 4 + 260 * n ≤ kept) → RM (rv gs (dCrash fs kept s6.dev).pages) ((i : Int) + 1) pg6) ∧ (word = "cut" → ¬ 4 + 260 * n ≤ kept → RM (rv gs (dCrash fs kept s6.dev).pages) f pg) := by
        have cut : Cut (i + 1) s6.dev v6 → ¬ word = "cut" → (Sml s6.dev ∧ s6.dev.writes.length ≤ 5 ∧ s6.dev.steps.length ≤ 100000) ∧ ∀ fs kept, kept ≤ s6.dev.steps.length → ∃ gs more j, A6 (i + 1) (dCrash fs kept s6.dev) gs more j ∧ ((¬ word = "cut" ∨ 4 + 260 * n ≤ kept) → RM (rv gs (dCrash fs kept s6.dev).pages) ((i : Int) + 1) pg6) ∧ (word = "cut" → ¬ 4 + 260 * n ≤ kept → RM (rv gs (dCrash fs kept s6.dev).pages) f pg) := fun cu nc =>
          ⟨⟨cu.sm, cu.nw, cu.ns⟩, fun fs kept hk => by
            obtain ⟨gs, more, j, a, e⟩ := cu.cr fs kept
            exact ⟨gs, more, j, a, fun _ => by rw [e]; exact rm6, fun z => absurd z nc⟩⟩
        rcases r6 with ⟨rfl, r, e, d, s1, s2, s3, cr⟩ | ⟨rfl, r, e, d, l, cu⟩ | ⟨rfl, l, l', gs', c6, d6, v6'⟩
        · refine ⟨⟨s1, s2, s3⟩, fun fs kept hk => ?_⟩
          obtain ⟨gs, more, j, a, e⟩ := cr fs kept hk
          refine ⟨gs, more, j, a, fun z => ?_, fun _ z => ?_⟩
          · rw [e, if_pos (z.resolve_left fun y => y rfl)]; exact rm6
          · rw [e, if_neg z]; exact rb
        · exact cut cu (by decide)
        · have cu := cr_of c6 (by omega) d6
          rw [v6'] at cu
          exact cut cu (by decide)
      obtain ⟨hsm, hcr⟩ := hsc
      walk_at "rd"
      refine if_dff hw0 ?_
      walk_at "rd"
      refine x_newT fun t2 H22 ht2 k22 e22 => ?_
      have W8 := W7.pure k22
      refine ⟨t2, [.str "cut", .str "late"], rfl, .inr (SqT.of e22), rfl, rfl, ?_⟩
      rw [if_neg Bool.false_ne_true]
      refine ⟨_, rfl, if_both ?_ fun hb rest => ?_⟩
      · walk_at "rd"
        refine if_both ?_ fun hb rest => ?_
        · walk_at "rd"
          refine x_notO _ ?_
          walk_at "rd"
          refine if_both ?_ fun hb rest => ?_
          · walk_at "rd"
            refine x_cut (fun σ' H' => ∃ mk', σ' = [some (.ref sc), some (.ref st), some (.ref q), some (.ref p), some (.ref mk'), some (.int i), some (oV (pw.map fun r : Nat => (r : Int))), some (.int s5.dev.done), some (.ref m), some (.int n), some (.str word), some (.int (s6.dev.done - s5.dev.done)), u12] ∧ H' = H22 ∧ ((word = "cut" ∧ mk' = mk) ∨ (¬ word = "cut" ∧ mk' = m))) ?_ ?_
            · walk_at "rd"
              by_cases hc : word = "cut"
              · rw [decide_eq_true hc]
                walk_at "rd"
                exact ⟨mk, rfl, rfl, .inl ⟨hc, rfl⟩⟩
              · rw [decide_eq_false hc]
                walk_at "rd"
                exact ⟨m, rfl, rfl, .inr ⟨hc, rfl⟩⟩
            · rintro σ' H' ⟨mk', rfl, rfl, hmk2⟩
              refine x_cut (fun σ' H' => ∃ p mk2 O Od s f pg gs u12, σ' = [some (.ref sc), some (.ref st), some (.ref q), some (.ref p), some (.ref mk2), some (.int i), some (oV (pw.map fun r : Nat => (r : Int))), some (.int s5.dev.done), some (.ref m), some (.int n), some (.str word), some (.int (s6.dev.done - s5.dev.done)), u12] ∧ WP c K H' st sc p q O Od s [(mk2, f, pg)] ∧ C6 (i + 1) s gs [] 0 ∧ (s.dir.map (·.1) = [] ∨ s.dir.map (·.1) = [0]) ∧ RM (gpg s) f pg ∧ RM (bv s) f pg) ?_ ?_
              · walk_at "rd"
                by_cases hws : word = "stands"
                · rw [decide_eq_true hws]
                  walk_at "rd"
                  refine ⟨st, sc, 4, rfl, by decide, by decide, W8.dr, fun y2 H23 z6 z7 dr23 k23 => ?_⟩
                  have Wz := W8.draw k23 dr23
                  walk_at "rd"
                  refine ite_dec (fun e4 => ?_) fun e4 => ?_
                  · have D1 := Wz.dev
                    obtain ⟨⟨dz, c1, c2, c3', c4, kvs, ws, DDz⟩, _⟩ := id D1.dv
                    have hqz := DDz.o
                    walk_at "rd"
                    refine ⟨st, sc, q, Od21, s6.dev, _, rfl, D1, hsm.1, by omega, hsm.2.2, fun H24 Od24 fs kept hk D2 => ?_⟩
                    obtain ⟨gs7, more7, j7, a7, hA, hB⟩ := hcr fs kept hk
                    walk_at "rd"
                    refine x_cut (fun σ' H' => ∃ mk2 f2 pg2, σ' = [some (.ref sc), some (.ref st), some (.ref q), some (.ref p), some (.ref mk2), some (.int i), some (oV (pw.map fun r : Nat => (r : Int))), some (.int s5.dev.done), some (.ref m), some (.int n), some (.str word), some (.int (s6.dev.done - s5.dev.done)), some (.int kept)] ∧ WD c K H' st sc q Od24 (dCrash fs kept s6.dev) [(mk2, f2, pg2)] ∧ RM (rv gs7 (dCrash fs kept s6.dev).pages) f2 pg2) ?_ ?_
                    · walk_at "rd"
                      by_cases hc : word = "cut"
                      · refine if_dtt hc ?_
                        walk_at "rd"
                        refine ite_dec (fun e4 => ?_) fun e4 => ?_
                        · walk_at "rd"
                          exact ⟨m, _, _, rfl, D2.sub fun x hx => by rw [List.mem_singleton.mp hx]; exact List.mem_cons_self, hA (.inr (by omega))⟩
                        · obtain ⟨_, rfl⟩ := hmk2.resolve_right fun z => z.1 hc
                          exact ⟨mk', _, _, rfl, D2.sub fun x hx => by rw [List.mem_singleton.mp hx]; exact List.mem_cons_of_mem _ (List.mem_singleton_self _), hB hc (by omega)⟩
                      · refine if_dff hc ?_
                        obtain ⟨_, rfl⟩ := hmk2.resolve_left fun z => hc z.1
                        exact ⟨mk', _, _, rfl, D2.sub fun x hx => by rw [List.mem_singleton.mp hx]; exact List.mem_cons_self, hA (.inl hc)⟩
                    · rintro σ' H' ⟨mk2, f2, pg2, rfl, D3, rm3⟩
                      walk_at "rd"
                      refine ⟨st, sc, q, Od24, _, [(mk2, f2, pg2)], i + 1, gs7, more7, j7, rfl, D3, a7, by omega, rfl, fun H25 p2 O25 Od25 s8 W9 c8 m8 d8 v8 => ?_⟩
                      rw [← v8] at rm3
                      have rm4 : RM (gpg (cnth s8)) f2 pg2 := by rw [gpg_cnth]; exact rm3.cn (c8.z 0)
                      walk_at "rd"
                      refine ⟨p2, q, O25, Od25, cnth s8, rfl, W9.pg, fun a H26 ad2 k26 na ea pa => ?_⟩
                      have W10 := W9.pure k26
                      walk_at "rd"
                      refine x_neR ea pa (W10.md _ (List.mem_singleton_self _)) rm4 ?_
                      walk_at "rd"
                      exact ⟨p2, mk2, O25, Od25, cnth s8, f2, pg2, [], _, rfl, W10, c8.cn, cnth_keys d8, rm4, by rw [bv_cnth d8]; exact rm3⟩
                  · obtain ⟨gs9, c9, d9, v9⟩ := hst hws
                    obtain ⟨_, rfl⟩ := hmk2.resolve_left fun z => by rw [hws] at z; exact absurd z.1 (by decide)
                    have b9 : bv s6 = gpg s6 := by unfold bv; rw [← d9]
                    exact ⟨p, mk', O21, Od21, s6, _, _, gs9, _, rfl, Wz.sub fun x hx => by rw [List.mem_singleton.mp hx]; exact List.mem_cons_self, c9, .inl (by rw [d9]; rfl), by rw [v9]; exact rm6, by rw [b9, v9]; exact rm6⟩
                · rw [decide_eq_false hws]
                  have Wz := W8
                  have D1 := Wz.dev
                  obtain ⟨⟨dz, c1, c2, c3', c4, kvs, ws, DDz⟩, _⟩ := id D1.dv
                  have hqz := DDz.o
                  walk_at "rd"
                  refine ⟨st, sc, q, Od21, s6.dev, _, rfl, D1, hsm.1, by omega, hsm.2.2, fun H24 Od24 fs kept hk D2 => ?_⟩
                  obtain ⟨gs7, more7, j7, a7, hA, hB⟩ := hcr fs kept hk
                  walk_at "rd"
                  refine x_cut (fun σ' H' => ∃ mk2 f2 pg2, σ' = [some (.ref sc), some (.ref st), some (.ref q), some (.ref p), some (.ref mk2), some (.int i), some (oV (pw.map fun r : Nat => (r : Int))), some (.int s5.dev.done), some (.ref m), some (.int n), some (.str word), some (.int (s6.dev.done - s5.dev.done)), some (.int kept)] ∧ WD c K H' st sc q Od24 (dCrash fs kept s6.dev) [(mk2, f2, pg2)] ∧ RM (rv gs7 (dCrash fs kept s6.dev).pages) f2 pg2) ?_ ?_
                  · walk_at "rd"
                    by_cases hc : word = "cut"
                    · refine if_dtt hc ?_
                      walk_at "rd"
                      refine ite_dec (fun e4 => ?_) fun e4 => ?_
                      · walk_at "rd"
                        exact ⟨m, _, _, rfl, D2.sub fun x hx => by rw [List.mem_singleton.mp hx]; exact List.mem_cons_self, hA (.inr (by omega))⟩
                      · obtain ⟨_, rfl⟩ := hmk2.resolve_right fun z => z.1 hc
                        exact ⟨mk', _, _, rfl, D2.sub fun x hx => by rw [List.mem_singleton.mp hx]; exact List.mem_cons_of_mem _ (List.mem_singleton_self _), hB hc (by omega)⟩
                    · refine if_dff hc ?_
                      obtain ⟨_, rfl⟩ := hmk2.resolve_left fun z => hc z.1
                      exact ⟨mk', _, _, rfl, D2.sub fun x hx => by rw [List.mem_singleton.mp hx]; exact List.mem_cons_self, hA (.inl hc)⟩
                  · rintro σ' H' ⟨mk2, f2, pg2, rfl, D3, rm3⟩
                    walk_at "rd"
                    refine ⟨st, sc, q, Od24, _, [(mk2, f2, pg2)], i + 1, gs7, more7, j7, rfl, D3, a7, by omega, rfl, fun H25 p2 O25 Od25 s8 W9 c8 m8 d8 v8 => ?_⟩
                    rw [← v8] at rm3
                    have rm4 : RM (gpg (cnth s8)) f2 pg2 := by rw [gpg_cnth]; exact rm3.cn (c8.z 0)
                    walk_at "rd"
                    refine ⟨p2, q, O25, Od25, cnth s8, rfl, W9.pg, fun a H26 ad2 k26 na ea pa => ?_⟩
                    have W10 := W9.pure k26
                    walk_at "rd"
                    refine x_neR ea pa (W10.md _ (List.mem_singleton_self _)) rm4 ?_
                    walk_at "rd"
                    exact ⟨p2, mk2, O25, Od25, cnth s8, f2, pg2, [], _, rfl, W10, c8.cn, cnth_keys d8, rm4, by rw [bv_cnth d8]; exact rm3⟩
              · rintro σ' H' ⟨p, mk, O, Od, s, f, pg, gs, u12, rfl, W, cc, dk, rg, rb⟩
                have V9 := W.dev
                obtain ⟨⟨dz, c1, c2, c3', c4, kvs, ws, DD9⟩, _⟩ := id V9.dv
                have hq9 := DD9.o
                walk_at "rd"
                refine ⟨q, Od, s.dev, none, rfl, V9.dv, fun H27 Od27 V27 t27 => ?_⟩
                obtain ⟨O27, X1⟩ := W.devS V27 t27
                have cx := cc.lim none
                have gx : gpg { s with dev := dLimit none s.dev } = gpg s := rfl
                have bx : bv { s with dev := dLimit none s.dev } = bv s := rfl
                have mx : ({ s with dev := dLimit none s.dev } : PgS).dev.most = none := rfl
                have dx' : ({ s with dev := dLimit none s.dev } : PgS).dir = s.dir := rfl
                generalize ({ s with dev := dLimit none s.dev } : PgS) = sx at X1 cx gx bx mx dx'
                rw [← gx] at rg
                rw [← bx] at rb
                rw [← dx'] at dk
                walk_at "rd"
                refine ⟨p, q, O27, Od27, sx, rfl, X1.pg, fun a H28 ad2 k28 na ea pa => ?_⟩
                have X2 := X1.pure k28
                walk_at "rd"
                refine x_neR ea pa (X2.md _ (List.mem_singleton_self _)) rg ?_
                walk_at "rd"
                refine ⟨st, sc, 2, rfl, by decide, by decide, X2.dr, fun y3 H29 z8 z9 dr29 k29 => ?_⟩
                have X3 := X2.draw k29 dr29
                walk_at "rd"
                refine ite_dec (fun e5 => ?_) fun e5 => ?_
                · have X3' := X3.dev
                  walk_at "rd"
                  intro p' dy hp hdy nd
                  refine open_step X3' cx.a (by omega) (.inl mx) hp hdy nd (fun H30 O30 Od30 s1 X4 c1 d1 v1 m1 => ⟨rfl, ?_⟩) fun H5 O5 Od5 s1 r W5 m5 n5 cu => by rw [mx] at m5; cases m5
                  have rb' : RM (gpg s1) f pg := by rw [v1, ← cx.bv]; exact rb
                  have rg' : RM (gpg (cnth s1)) f pg := by rw [gpg_cnth]; exact rb'.cn (c1.z 0)
                  have sm := c1.sml (by omega)
                  rw [← cnth_dev] at sm
                  obtain ⟨⟨dz, c1', c2, c3', c4, kvs, ws, DDa⟩, _⟩ := id X4.dev.dv
                  have hqa := DDa.o
                  walk_at "rd"
                  refine ⟨q, Od30, _, rfl, X4.dev.dv, sm, fun l1 H31 hl1 k31 e31 => ?_⟩
                  have X5 := X4.pure k31
                  have hqb := k31.get hqa id
                  walk_at "rd"
                  refine x_newL fun l2 H32 hl2 k32 e32 => ?_
                  have X6 := X5.pure k32
                  have hqc := k32.get hqb id
                  have ecl : clog (cnth s1).dev = [] := by rw [cnth_dev, c1.a.cl]; rfl
                  refine x_neLI (ns := clog (cnth s1).dev) (ms := []) (SqL.of (k32.get e31 id)) (SqL.of e32) ?_
                  rw [decide_eq_true ecl]
                  walk_at "rd"
                  refine ⟨q, Od30, _, rfl, X6.dev.dv, fun t1 H33 k33 e33 => ?_⟩
                  have X7 := X6.pure k33
                  walk_at "rd"
                  refine x_newT fun t3 H34 ht3 k34 e34 => ?_
                  have X8 := X7.pure k34
                  refine x_neTI (ns := [((cnth s1).dev.writes.length : Int), ((cnth s1).dev.steps.length : Int)]) (ms := [0, 0]) (SqT.of (k34.tup e33)) (SqT.of e34) ?_
                  rw [cnth_dev, c1.a.w, c1.a.st, decide_eq_true (by simp)]
                  walk_at "rd"
                  refine ⟨p', q, O30, Od30, cnth s1, rfl, X8.pg, fun a H35 ad3 k35 na ea pa => ?_⟩
                  have X9 := X8.pure k35
                  walk_at "rd"
                  refine x_neR ea pa (X9.md _ (List.mem_singleton_self _)) rg' ?_
                  walk_at "rd"
                  exact ⟨_, _, _, _, _, _, _, _, p', mk, O30, Od30, cnth s1, f, pg, [], rfl, X9, c1.cn, by rw [cnth_dev, m1, mx], cnth_keys d1, rg', by rw [bv_cnth d1]; exact rb'⟩
                · exact ⟨_, _, _, _, _, _, _, _, p, mk, O27, Od27, sx, f, pg, gs, rfl, X3, cx, mx, dk, rg, rb⟩
          · cases pw with
            | none => cases hb
            | some r =>
              have l := hle r rfl
              walk_at "rd"
              refine x_I0 (m := s6.dev.done - s5.dev.done) (n := (r : Int)) ?_
              rw [decide_eq_false (by omega)]
              exact ⟨_, rfl, rest⟩
        · have hc : ¬ word = "cut" := fun z => by rw [decide_eq_true z] at hb; cases hb
          have l := hus hc
          walk_at "rd"
          rw [decide_eq_false (by omega)]
          exact rest
      · obtain ⟨r, er, eu⟩ := hin (by
          have z : eqV (.str "cut") (.str word) = true ∨ eqV (.str "late") (.str word) = true := by simpa [inV] using hb
          rcases z with z | z
          · left; have y : ("cut" : Str) = word := by simpa [eqV] using z
            exact y.symm
          · right; have y : ("late" : Str) = word := by simpa [eqV] using z
            exact y.symm)
        subst er
        walk_at "rd"
        refine x_isNi (i := (r : Int)) ?_
        walk_at "rd"
        refine x_neI (n := (r : Int)) ?_
        rw [decide_eq_true eu]
        exact ⟨_, rfl, rest⟩
    · rintro σ H14 ⟨u5, u6, u7, u8, u9, u10, u11, u12, p, mk, O, Od, s, f, pg, gs, rfl, _⟩
      walk_at "rd"
      exact k _
end
theorem all_mk {l : PySem.W.OpenLaw} {w : World} {K : PySem.W.Frag} {h : Heap} {mg : Str → Option Value} {fa : Addr} (X : K.In h) (G : h.Ns mainGlobals mg) (hfa : mg "law" = some (.ref fa))
    {C_Pager : Addr}
    {C_Device : Addr}
    {C_PowerCut : Addr}
    {C_VaultError : Addr}
    {f1 : Addr} {od1 an1 : Option Addr} {sl1 : Array (Option Value)} {oc1 kV1 dc1 pm1 cd1 ct1 : Value}
    {f2 : Addr} {od2 an2 : Option Addr} {sl2 : Array (Option Value)} {oc2 kV2 dc2 pm2 cd2 ct2 : Value}
    {f3 : Addr} {od3 an3 : Option Addr} {sl3 : Array (Option Value)} {oc3 kV3 dc3 pm3 cd3 ct3 : Value}
    {f4 : Addr} {od4 an4 : Option Addr} {sl4 : Array (Option Value)} {oc4 kV4 dc4 pm4 cd4 ct4 : Value}
    {f5 : Addr} {od5 an5 : Option Addr} {sl5 : Array (Option Value)} {oc5 kV5 dc5 pm5 cd5 ct5 : Value}
    {f6 : Addr} {od6 an6 : Option Addr} {sl6 : Array (Option Value)} {oc6 kV6 dc6 pm6 cd6 ct6 : Value}
    {f7 : Addr} {od7 an7 : Option Addr} {sl7 : Array (Option Value)} {oc7 kV7 dc7 pm7 cd7 ct7 : Value}
    {f8 : Addr} {od8 an8 : Option Addr} {sl8 : Array (Option Value)} {oc8 kV8 dc8 pm8 cd8 ct8 : Value}
    {f9 : Addr} {od9 an9 : Option Addr} {sl9 : Array (Option Value)} {oc9 kV9 dc9 pm9 cd9 ct9 : Value}
    {f10 : Addr} {od10 an10 : Option Addr} {sl10 : Array (Option Value)} {oc10 kV10 dc10 pm10 cd10 ct10 : Value}
    {f11 : Addr} {od11 an11 : Option Addr} {sl11 : Array (Option Value)} {oc11 kV11 dc11 pm11 cd11 ct11 : Value}
    {f12 : Addr} {od12 an12 : Option Addr} {sl12 : Array (Option Value)} {oc12 kV12 dc12 pm12 cd12 ct12 : Value}
    {f13 : Addr} {od13 an13 : Option Addr} {sl13 : Array (Option Value)} {oc13 kV13 dc13 pm13 cd13 ct13 : Value}
    {f14 : Addr} {od14 an14 : Option Addr} {sl14 : Array (Option Value)} {oc14 kV14 dc14 pm14 cd14 ct14 : Value}
    {f15 : Addr} {od15 an15 : Option Addr} {sl15 : Array (Option Value)} {oc15 kV15 dc15 pm15 cd15 ct15 : Value}
    {f16 : Addr} {od16 an16 : Option Addr} {sl16 : Array (Option Value)} {oc16 kV16 dc16 pm16 cd16 ct16 : Value}
    {f17 : Addr} {od17 an17 : Option Addr} {sl17 : Array (Option Value)} {oc17 kV17 dc17 pm17 cd17 ct17 : Value}
    {f18 : Addr} {od18 an18 : Option Addr} {sl18 : Array (Option Value)} {oc18 kV18 dc18 pm18 cd18 ct18 : Value}
    {f19 : Addr} {od19 an19 : Option Addr} {sl19 : Array (Option Value)} {oc19 kV19 dc19 pm19 cd19 ct19 : Value}
    {f20 : Addr} {od20 an20 : Option Addr} {sl20 : Array (Option Value)} {oc20 kV20 dc20 pm20 cd20 ct20 : Value}
    {f21 : Addr} {od21 an21 : Option Addr} {sl21 : Array (Option Value)} {oc21 kV21 dc21 pm21 cd21 ct21 : Value}
    {f22 : Addr} {od22 an22 : Option Addr} {sl22 : Array (Option Value)} {oc22 kV22 dc22 pm22 cd22 ct22 : Value}
    {f23 : Addr} {od23 an23 : Option Addr} {sl23 : Array (Option Value)} {oc23 kV23 dc23 pm23 cd23 ct23 : Value}
    {f24 : Addr} {od24 an24 : Option Addr} {sl24 : Array (Option Value)} {oc24 kV24 dc24 pm24 cd24 ct24 : Value}
    {f25 : Addr} {od25 an25 : Option Addr} {sl25 : Array (Option Value)} {oc25 kV25 dc25 pm25 cd25 ct25 : Value}
    {f26 : Addr} {od26 an26 : Option Addr} {sl26 : Array (Option Value)} {oc26 kV26 dc26 pm26 cd26 ct26 : Value}
    {f27 : Addr} {od27 an27 : Option Addr} {sl27 : Array (Option Value)} {oc27 kV27 dc27 pm27 cd27 ct27 : Value}
    {f28 : Addr} {od28 an28 : Option Addr} {sl28 : Array (Option Value)} {oc28 kV28 dc28 pm28 cd28 ct28 : Value}
    {f29 : Addr} {od29 an29 : Option Addr} {sl29 : Array (Option Value)} {oc29 kV29 dc29 pm29 cd29 ct29 : Value}
    {f30 : Addr} {od30 an30 : Option Addr} {sl30 : Array (Option Value)} {oc30 kV30 dc30 pm30 cd30 ct30 : Value}
    {f31 : Addr} {od31 an31 : Option Addr} {sl31 : Array (Option Value)} {oc31 kV31 dc31 pm31 cd31 ct31 : Value}
    {f32 : Addr} {od32 an32 : Option Addr} {sl32 : Array (Option Value)} {oc32 kV32 dc32 pm32 cd32 ct32 : Value}
    {f33 : Addr} {od33 an33 : Option Addr} {sl33 : Array (Option Value)} {oc33 kV33 dc33 pm33 cd33 ct33 : Value}
    {f34 : Addr} {od34 an34 : Option Addr} {sl34 : Array (Option Value)} {oc34 kV34 dc34 pm34 cd34 ct34 : Value}
    {f35 : Addr} {od35 an35 : Option Addr} {sl35 : Array (Option Value)} {oc35 kV35 dc35 pm35 cd35 ct35 : Value}
    {f36 : Addr} {od36 an36 : Option Addr} {sl36 : Array (Option Value)} {oc36 kV36 dc36 pm36 cd36 ct36 : Value}
    {f37 : Addr} {od37 an37 : Option Addr} {sl37 : Array (Option Value)} {oc37 kV37 dc37 pm37 cd37 ct37 : Value}
    {f38 : Addr} {od38 an38 : Option Addr} {sl38 : Array (Option Value)} {oc38 kV38 dc38 pm38 cd38 ct38 : Value}
    {t_PAGE_SIZE : Tok}
    {t_HALF : Tok}
    {t_NUMBER_SIZE : Tok}
    {t_FIELD_SIZE : Tok}
    {t_PAGES : Tok}
    (aC_VaultError : PySem.W.nsIn K mainGlobals "VaultError" = some (some (.ref C_VaultError)))
    (aC_PowerCut : PySem.W.nsIn K mainGlobals "PowerCut" = some (some (.ref C_PowerCut)))
    (aC_Device : PySem.W.nsIn K mainGlobals "Device" = some (some (.ref C_Device)))
    (aC_Pager : PySem.W.nsIn K mainGlobals "Pager" = some (some (.ref C_Pager)))
    (a1 : PySem.W.nsIn K mainGlobals "_wall" = some (some (.ref f1)))
    (l1 : K.lookup f1 = some ⟨oc1, od1, .func (PySem.W.fnOf "_wall" "_wall" (defArgs s__wall) (defBody s__wall) (defScope s__wall) .none kV1 dc1 pm1 an1 cd1 ct1), sl1⟩)
    (c1 : PySem.W.codeIn K cd1 "_wall" = true)
    (k1 : PySem.W.keepIn K (.ref f1) = true)
    (a2 : PySem.W.findIn K (.ref C_Device) "__init__" = some (some (.ref f2)))
    (i2 : PySem.W.isFn K (.ref f2) = true)
    (l2 : K.lookup f2 = some ⟨oc2, od2, .func (PySem.W.fnOf "__init__" "Device.__init__" (defArgs s_Device___init__) (defBody s_Device___init__) (defScope s_Device___init__) .none kV2 dc2 pm2 an2 cd2 ct2), sl2⟩)
    (c2 : PySem.W.codeIn K cd2 "Device.__init__" = true)
    (k2 : PySem.W.keepIn K (.ref f2) = true)
    (a3 : PySem.W.findIn K (.ref C_Device) "step" = some (some (.ref f3)))
    (i3 : PySem.W.isFn K (.ref f3) = true)
    (l3 : K.lookup f3 = some ⟨oc3, od3, .func (PySem.W.fnOf "step" "Device.step" (defArgs s_Device_step) (defBody s_Device_step) (defScope s_Device_step) .none kV3 dc3 pm3 an3 cd3 ct3), sl3⟩)
    (c3 : PySem.W.codeIn K cd3 "Device.step" = true)
    (k3 : PySem.W.keepIn K (.ref f3) = true)
    (a4 : PySem.W.findIn K (.ref C_Device) "write_page" = some (some (.ref f4)))
    (i4 : PySem.W.isFn K (.ref f4) = true)
    (l4 : K.lookup f4 = some ⟨oc4, od4, .func (PySem.W.fnOf "write_page" "Device.write_page" (defArgs s_Device_write_page) (defBody s_Device_write_page) (defScope s_Device_write_page) .none kV4 dc4 pm4 an4 cd4 ct4), sl4⟩)
    (c4 : PySem.W.codeIn K cd4 "Device.write_page" = true)
    (k4 : PySem.W.keepIn K (.ref f4) = true)
    (a5 : PySem.W.findIn K (.ref C_Device) "sync_pages" = some (some (.ref f5)))
    (i5 : PySem.W.isFn K (.ref f5) = true)
    (l5 : K.lookup f5 = some ⟨oc5, od5, .func (PySem.W.fnOf "sync_pages" "Device.sync_pages" (defArgs s_Device_sync_pages) (defBody s_Device_sync_pages) (defScope s_Device_sync_pages) .none kV5 dc5 pm5 an5 cd5 ct5), sl5⟩)
    (c5 : PySem.W.codeIn K cd5 "Device.sync_pages" = true)
    (k5 : PySem.W.keepIn K (.ref f5) = true)
    (a6 : PySem.W.findIn K (.ref C_Device) "append" = some (some (.ref f6)))
    (i6 : PySem.W.isFn K (.ref f6) = true)
    (l6 : K.lookup f6 = some ⟨oc6, od6, .func (PySem.W.fnOf "append" "Device.append" (defArgs s_Device_append) (defBody s_Device_append) (defScope s_Device_append) .none kV6 dc6 pm6 an6 cd6 ct6), sl6⟩)
    (c6 : PySem.W.codeIn K cd6 "Device.append" = true)
    (k6 : PySem.W.keepIn K (.ref f6) = true)
    (a7 : PySem.W.findIn K (.ref C_Device) "clear" = some (some (.ref f7)))
    (i7 : PySem.W.isFn K (.ref f7) = true)
    (l7 : K.lookup f7 = some ⟨oc7, od7, .func (PySem.W.fnOf "clear" "Device.clear" (defArgs s_Device_clear) (defBody s_Device_clear) (defScope s_Device_clear) .none kV7 dc7 pm7 an7 cd7 ct7), sl7⟩)
    (c7 : PySem.W.codeIn K cd7 "Device.clear" = true)
    (k7 : PySem.W.keepIn K (.ref f7) = true)
    (a8 : PySem.W.findIn K (.ref C_Device) "sync_log" = some (some (.ref f8)))
    (i8 : PySem.W.isFn K (.ref f8) = true)
    (l8 : K.lookup f8 = some ⟨oc8, od8, .func (PySem.W.fnOf "sync_log" "Device.sync_log" (defArgs s_Device_sync_log) (defBody s_Device_sync_log) (defScope s_Device_sync_log) .none kV8 dc8 pm8 an8 cd8 ct8), sl8⟩)
    (c8 : PySem.W.codeIn K cd8 "Device.sync_log" = true)
    (k8 : PySem.W.keepIn K (.ref f8) = true)
    (a9 : PySem.W.findIn K (.ref C_Device) "durable_page" = some (some (.ref f9)))
    (i9 : PySem.W.isFn K (.ref f9) = true)
    (l9 : K.lookup f9 = some ⟨oc9, od9, .func (PySem.W.fnOf "durable_page" "Device.durable_page" (defArgs s_Device_durable_page) (defBody s_Device_durable_page) (defScope s_Device_durable_page) .none kV9 dc9 pm9 an9 cd9 ct9), sl9⟩)
    (c9 : PySem.W.codeIn K cd9 "Device.durable_page" = true)
    (k9 : PySem.W.keepIn K (.ref f9) = true)
    (a10 : PySem.W.findIn K (.ref C_Device) "page" = some (some (.ref f10)))
    (i10 : PySem.W.isFn K (.ref f10) = true)
    (l10 : K.lookup f10 = some ⟨oc10, od10, .func (PySem.W.fnOf "page" "Device.page" (defArgs s_Device_page) (defBody s_Device_page) (defScope s_Device_page) .none kV10 dc10 pm10 an10 cd10 ct10), sl10⟩)
    (c10 : PySem.W.codeIn K cd10 "Device.page" = true)
    (k10 : PySem.W.keepIn K (.ref f10) = true)
    (a11 : PySem.W.findIn K (.ref C_Device) "log" = some (some (.ref f11)))
    (i11 : PySem.W.isFn K (.ref f11) = true)
    (l11 : K.lookup f11 = some ⟨oc11, od11, .func (PySem.W.fnOf "log" "Device.log" (defArgs s_Device_log) (defBody s_Device_log) (defScope s_Device_log) .none kV11 dc11 pm11 an11 cd11 ct11), sl11⟩)
    (c11 : PySem.W.codeIn K cd11 "Device.log" = true)
    (k11 : PySem.W.keepIn K (.ref f11) = true)
    (a12 : PySem.W.findIn K (.ref C_Device) "limit" = some (some (.ref f12)))
    (i12 : PySem.W.isFn K (.ref f12) = true)
    (l12 : K.lookup f12 = some ⟨oc12, od12, .func (PySem.W.fnOf "limit" "Device.limit" (defArgs s_Device_limit) (defBody s_Device_limit) (defScope s_Device_limit) .none kV12 dc12 pm12 an12 cd12 ct12), sl12⟩)
    (c12 : PySem.W.codeIn K cd12 "Device.limit" = true)
    (k12 : PySem.W.keepIn K (.ref f12) = true)
    (a13 : PySem.W.findIn K (.ref C_Device) "crash" = some (some (.ref f13)))
    (i13 : PySem.W.isFn K (.ref f13) = true)
    (l13 : K.lookup f13 = some ⟨oc13, od13, .func (PySem.W.fnOf "crash" "Device.crash" (defArgs s_Device_crash) (defBody s_Device_crash) (defScope s_Device_crash) .none kV13 dc13 pm13 an13 cd13 ct13), sl13⟩)
    (c13 : PySem.W.codeIn K cd13 "Device.crash" = true)
    (k13 : PySem.W.keepIn K (.ref f13) = true)
    (a14 : PySem.W.findIn K (.ref C_Device) "steps" = some (some (.ref f14)))
    (i14 : PySem.W.isFn K (.ref f14) = true)
    (l14 : K.lookup f14 = some ⟨oc14, od14, .func (PySem.W.fnOf "steps" "Device.steps" (defArgs s_Device_steps) (defBody s_Device_steps) (defScope s_Device_steps) .none kV14 dc14 pm14 an14 cd14 ct14), sl14⟩)
    (c14 : PySem.W.codeIn K cd14 "Device.steps" = true)
    (k14 : PySem.W.keepIn K (.ref f14) = true)
    (a15 : PySem.W.findIn K (.ref C_Device) "pending" = some (some (.ref f15)))
    (i15 : PySem.W.isFn K (.ref f15) = true)
    (l15 : K.lookup f15 = some ⟨oc15, od15, .func (PySem.W.fnOf "pending" "Device.pending" (defArgs s_Device_pending) (defBody s_Device_pending) (defScope s_Device_pending) .none kV15 dc15 pm15 an15 cd15 ct15), sl15⟩)
    (c15 : PySem.W.codeIn K cd15 "Device.pending" = true)
    (k15 : PySem.W.keepIn K (.ref f15) = true)
    (a16 : PySem.W.nsIn K mainGlobals "write_number" = some (some (.ref f16)))
    (l16 : K.lookup f16 = some ⟨oc16, od16, .func (PySem.W.fnOf "write_number" "write_number" (defArgs s_write_number) (defBody s_write_number) (defScope s_write_number) .none kV16 dc16 pm16 an16 cd16 ct16), sl16⟩)
    (c16 : PySem.W.codeIn K cd16 "write_number" = true)
    (k16 : PySem.W.keepIn K (.ref f16) = true)
    (a17 : PySem.W.nsIn K mainGlobals "read_number" = some (some (.ref f17)))
    (l17 : K.lookup f17 = some ⟨oc17, od17, .func (PySem.W.fnOf "read_number" "read_number" (defArgs s_read_number) (defBody s_read_number) (defScope s_read_number) .none kV17 dc17 pm17 an17 cd17 ct17), sl17⟩)
    (c17 : PySem.W.codeIn K cd17 "read_number" = true)
    (k17 : PySem.W.keepIn K (.ref f17) = true)
    (a18 : PySem.W.nsIn K mainGlobals "write_group" = some (some (.ref f18)))
    (l18 : K.lookup f18 = some ⟨oc18, od18, .func (PySem.W.fnOf "write_group" "write_group" (defArgs s_write_group) (defBody s_write_group) (defScope s_write_group) .none kV18 dc18 pm18 an18 cd18 ct18), sl18⟩)
    (c18 : PySem.W.codeIn K cd18 "write_group" = true)
    (k18 : PySem.W.keepIn K (.ref f18) = true)
    (a19 : PySem.W.nsIn K mainGlobals "read_groups" = some (some (.ref f19)))
    (l19 : K.lookup f19 = some ⟨oc19, od19, .func (PySem.W.fnOf "read_groups" "read_groups" (defArgs s_read_groups) (defBody s_read_groups) (defScope s_read_groups) .none kV19 dc19 pm19 an19 cd19 ct19), sl19⟩)
    (c19 : PySem.W.codeIn K cd19 "read_groups" = true)
    (k19 : PySem.W.keepIn K (.ref f19) = true)
    (a20 : PySem.W.findIn K (.ref C_Pager) "__init__" = some (some (.ref f20)))
    (i20 : PySem.W.isFn K (.ref f20) = true)
    (l20 : K.lookup f20 = some ⟨oc20, od20, .func (PySem.W.fnOf "__init__" "Pager.__init__" (defArgs s_Pager___init__) (defBody s_Pager___init__) (defScope s_Pager___init__) .none kV20 dc20 pm20 an20 cd20 ct20), sl20⟩)
    (c20 : PySem.W.codeIn K cd20 "Pager.__init__" = true)
    (k20 : PySem.W.keepIn K (.ref f20) = true)
    (a21 : PySem.W.findIn K (.ref C_Pager) "count_head" = some (some (.ref f21)))
    (i21 : PySem.W.isFn K (.ref f21) = true)
    (l21 : K.lookup f21 = some ⟨oc21, od21, .func (PySem.W.fnOf "count_head" "Pager.count_head" (defArgs s_Pager_count_head) (defBody s_Pager_count_head) (defScope s_Pager_count_head) .none kV21 dc21 pm21 an21 cd21 ct21), sl21⟩)
    (c21 : PySem.W.codeIn K cd21 "Pager.count_head" = true)
    (k21 : PySem.W.keepIn K (.ref f21) = true)
    (a22 : PySem.W.findIn K (.ref C_Pager) "read" = some (some (.ref f22)))
    (i22 : PySem.W.isFn K (.ref f22) = true)
    (l22 : K.lookup f22 = some ⟨oc22, od22, .func (PySem.W.fnOf "read" "Pager.read" (defArgs s_Pager_read) (defBody s_Pager_read) (defScope s_Pager_read) .none kV22 dc22 pm22 an22 cd22 ct22), sl22⟩)
    (c22 : PySem.W.codeIn K cd22 "Pager.read" = true)
    (k22 : PySem.W.keepIn K (.ref f22) = true)
    (a23 : PySem.W.findIn K (.ref C_Pager) "write" = some (some (.ref f23)))
    (i23 : PySem.W.isFn K (.ref f23) = true)
    (l23 : K.lookup f23 = some ⟨oc23, od23, .func (PySem.W.fnOf "write" "Pager.write" (defArgs s_Pager_write) (defBody s_Pager_write) (defScope s_Pager_write) .none kV23 dc23 pm23 an23 cd23 ct23), sl23⟩)
    (c23 : PySem.W.codeIn K cd23 "Pager.write" = true)
    (k23 : PySem.W.keepIn K (.ref f23) = true)
    (a24 : PySem.W.findIn K (.ref C_Pager) "field" = some (some (.ref f24)))
    (i24 : PySem.W.isFn K (.ref f24) = true)
    (l24 : K.lookup f24 = some ⟨oc24, od24, .func (PySem.W.fnOf "field" "Pager.field" (defArgs s_Pager_field) (defBody s_Pager_field) (defScope s_Pager_field) .none kV24 dc24 pm24 an24 cd24 ct24), sl24⟩)
    (c24 : PySem.W.codeIn K cd24 "Pager.field" = true)
    (k24 : PySem.W.keepIn K (.ref f24) = true)
    (a25 : PySem.W.findIn K (.ref C_Pager) "set_field" = some (some (.ref f25)))
    (i25 : PySem.W.isFn K (.ref f25) = true)
    (l25 : K.lookup f25 = some ⟨oc25, od25, .func (PySem.W.fnOf "set_field" "Pager.set_field" (defArgs s_Pager_set_field) (defBody s_Pager_set_field) (defScope s_Pager_set_field) .none kV25 dc25 pm25 an25 cd25 ct25), sl25⟩)
    (c25 : PySem.W.codeIn K cd25 "Pager.set_field" = true)
    (k25 : PySem.W.keepIn K (.ref f25) = true)
    (a26 : PySem.W.findIn K (.ref C_Pager) "allocate" = some (some (.ref f26)))
    (i26 : PySem.W.isFn K (.ref f26) = true)
    (l26 : K.lookup f26 = some ⟨oc26, od26, .func (PySem.W.fnOf "allocate" "Pager.allocate" (defArgs s_Pager_allocate) (defBody s_Pager_allocate) (defScope s_Pager_allocate) .none kV26 dc26 pm26 an26 cd26 ct26), sl26⟩)
    (c26 : PySem.W.codeIn K cd26 "Pager.allocate" = true)
    (k26 : PySem.W.keepIn K (.ref f26) = true)
    (a27 : PySem.W.findIn K (.ref C_Pager) "release" = some (some (.ref f27)))
    (i27 : PySem.W.isFn K (.ref f27) = true)
    (l27 : K.lookup f27 = some ⟨oc27, od27, .func (PySem.W.fnOf "release" "Pager.release" (defArgs s_Pager_release) (defBody s_Pager_release) (defScope s_Pager_release) .none kV27 dc27 pm27 an27 cd27 ct27), sl27⟩)
    (c27 : PySem.W.codeIn K cd27 "Pager.release" = true)
    (k27 : PySem.W.keepIn K (.ref f27) = true)
    (a28 : PySem.W.findIn K (.ref C_Pager) "commit" = some (some (.ref f28)))
    (i28 : PySem.W.isFn K (.ref f28) = true)
    (l28 : K.lookup f28 = some ⟨oc28, od28, .func (PySem.W.fnOf "commit" "Pager.commit" (defArgs s_Pager_commit) (defBody s_Pager_commit) (defScope s_Pager_commit) .none kV28 dc28 pm28 an28 cd28 ct28), sl28⟩)
    (c28 : PySem.W.codeIn K cd28 "Pager.commit" = true)
    (k28 : PySem.W.keepIn K (.ref f28) = true)
    (a29 : PySem.W.findIn K (.ref C_Pager) "checkpoint" = some (some (.ref f29)))
    (i29 : PySem.W.isFn K (.ref f29) = true)
    (l29 : K.lookup f29 = some ⟨oc29, od29, .func (PySem.W.fnOf "checkpoint" "Pager.checkpoint" (defArgs s_Pager_checkpoint) (defBody s_Pager_checkpoint) (defScope s_Pager_checkpoint) .none kV29 dc29 pm29 an29 cd29 ct29), sl29⟩)
    (c29 : PySem.W.codeIn K cd29 "Pager.checkpoint" = true)
    (k29 : PySem.W.keepIn K (.ref f29) = true)
    (a30 : PySem.W.findIn K (.ref C_Pager) "rollback" = some (some (.ref f30)))
    (i30 : PySem.W.isFn K (.ref f30) = true)
    (l30 : K.lookup f30 = some ⟨oc30, od30, .func (PySem.W.fnOf "rollback" "Pager.rollback" (defArgs s_Pager_rollback) (defBody s_Pager_rollback) (defScope s_Pager_rollback) .none kV30 dc30 pm30 an30 cd30 ct30), sl30⟩)
    (c30 : PySem.W.codeIn K cd30 "Pager.rollback" = true)
    (k30 : PySem.W.keepIn K (.ref f30) = true)
    (a31 : PySem.W.nsIn K mainGlobals "_law_draw" = some (some (.ref f31)))
    (l31 : K.lookup f31 = some ⟨oc31, od31, .func (PySem.W.fnOf "_law_draw" "_law_draw" (defArgs s__law_draw) (defBody s__law_draw) (defScope s__law_draw) .none kV31 dc31 pm31 an31 cd31 ct31), sl31⟩)
    (c31 : PySem.W.codeIn K cd31 "_law_draw" = true)
    (k31 : PySem.W.keepIn K (.ref f31) = true)
    (a32 : PySem.W.nsIn K mainGlobals "_law_change" = some (some (.ref f32)))
    (l32 : K.lookup f32 = some ⟨oc32, od32, .func (PySem.W.fnOf "_law_change" "_law_change" (defArgs s__law_change) (defBody s__law_change) (defScope s__law_change) .none kV32 dc32 pm32 an32 cd32 ct32), sl32⟩)
    (c32 : PySem.W.codeIn K cd32 "_law_change" = true)
    (k32 : PySem.W.keepIn K (.ref f32) = true)
    (a33 : PySem.W.nsIn K mainGlobals "_law_shown" = some (some (.ref f33)))
    (l33 : K.lookup f33 = some ⟨oc33, od33, .func (PySem.W.fnOf "_law_shown" "_law_shown" (defArgs s__law_shown) (defBody s__law_shown) (defScope s__law_shown) .none kV33 dc33 pm33 an33 cd33 ct33), sl33⟩)
    (c33 : PySem.W.codeIn K cd33 "_law_shown" = true)
    (k33 : PySem.W.keepIn K (.ref f33) = true)
    (a34 : PySem.W.nsIn K mainGlobals "_law_crash" = some (some (.ref f34)))
    (l34 : K.lookup f34 = some ⟨oc34, od34, .func (PySem.W.fnOf "_law_crash" "_law_crash" (defArgs s__law_crash) (defBody s__law_crash) (defScope s__law_crash) .none kV34 dc34 pm34 an34 cd34 ct34), sl34⟩)
    (c34 : PySem.W.codeIn K cd34 "_law_crash" = true)
    (k34 : PySem.W.keepIn K (.ref f34) = true)
    (a35 : PySem.W.nsIn K mainGlobals "_law_opened" = some (some (.ref f35)))
    (l35 : K.lookup f35 = some ⟨oc35, od35, .func (PySem.W.fnOf "_law_opened" "_law_opened" (defArgs s__law_opened) (defBody s__law_opened) (defScope s__law_opened) .none kV35 dc35 pm35 an35 cd35 ct35), sl35⟩)
    (c35 : PySem.W.codeIn K cd35 "_law_opened" = true)
    (k35 : PySem.W.keepIn K (.ref f35) = true)
    (a36 : PySem.W.nsIn K mainGlobals "_law_group_holds" = some (some (.ref f36)))
    (l36 : K.lookup f36 = some ⟨oc36, od36, .func (PySem.W.fnOf "_law_group_holds" "_law_group_holds" (defArgs s__law_group_holds) (defBody s__law_group_holds) (defScope s__law_group_holds) .none kV36 dc36 pm36 an36 cd36 ct36), sl36⟩)
    (c36 : PySem.W.codeIn K cd36 "_law_group_holds" = true)
    (k36 : PySem.W.keepIn K (.ref f36) = true)
    (a37 : PySem.W.nsIn K mainGlobals "_law_round" = some (some (.ref f37)))
    (l37 : K.lookup f37 = some ⟨oc37, od37, .func (PySem.W.fnOf "_law_round" "_law_round" (defArgs s__law_round) (defBody s__law_round) (defScope s__law_round) .none kV37 dc37 pm37 an37 cd37 ct37), sl37⟩)
    (c37 : PySem.W.codeIn K cd37 "_law_round" = true)
    (k37 : PySem.W.keepIn K (.ref f37) = true)
    (a38 : PySem.W.nsIn K mainGlobals "law" = some (some (.ref f38)))
    (l38 : K.lookup f38 = some ⟨oc38, od38, .func (PySem.W.fnOf "law" "law" (defArgs s_law) (defBody s_law) (defScope s_law) .none kV38 dc38 pm38 an38 cd38 ct38), sl38⟩)
    (c38 : PySem.W.codeIn K cd38 "law" = true)
    (k38 : PySem.W.keepIn K (.ref f38) = true)
    (g_PAGE_SIZE : PySem.W.nsIn K mainGlobals "PAGE_SIZE" = some (some (.int 256 t_PAGE_SIZE)))
    (g_HALF : PySem.W.nsIn K mainGlobals "HALF" = some (some (.int 128 t_HALF)))
    (g_NUMBER_SIZE : PySem.W.nsIn K mainGlobals "NUMBER_SIZE" = some (some (.int 4 t_NUMBER_SIZE)))
    (g_FIELD_SIZE : PySem.W.nsIn K mainGlobals "FIELD_SIZE" = some (some (.int 4 t_FIELD_SIZE)))
    (g_PAGES : PySem.W.nsIn K mainGlobals "PAGES" = some (some (.int 6 t_PAGES)))
    (z_ValueError : PySem.W.nsIn K mainGlobals "ValueError" = some none)
    (z_all : PySem.W.nsIn K mainGlobals "all" = some none)
    (z_dict : PySem.W.nsIn K mainGlobals "dict" = some none)
    (z_int : PySem.W.nsIn K mainGlobals "int" = some none)
    (z_len : PySem.W.nsIn K mainGlobals "len" = some none)
    (z_list : PySem.W.nsIn K mainGlobals "list" = some none)
    (z_min : PySem.W.nsIn K mainGlobals "min" = some none)
    (z_range : PySem.W.nsIn K mainGlobals "range" = some none)
    (z_reversed : PySem.W.nsIn K mainGlobals "reversed" = some none)
    (z_sorted : PySem.W.nsIn K mainGlobals "sorted" = some none)
    (pg_Device : PySem.W.plainGet K C_Device Str.empty = true)
    (hd_Device : PySem.W.hasDictIn K C_Device = true)
    (po_Device : PySem.W.plainOver K C_Device = true)
    (sa_Device : PySem.W.findIn K (.ref C_Device) "__setattr__" = some (some (.builtin "object.__setattr__")))
    (mk_Device : PySem.W.makesIn K C_Device = true)
    (kc_Device : PySem.W.keepIn K (.ref C_Device) = true)
    (n_Device_pages : PySem.W.findIn K (.ref C_Device) "pages" = some none)
    (n_Device_page_writes : PySem.W.findIn K (.ref C_Device) "page_writes" = some none)
    (n_Device_durable_log : PySem.W.findIn K (.ref C_Device) "durable_log" = some none)
    (n_Device_log_steps : PySem.W.findIn K (.ref C_Device) "log_steps" = some none)
    (n_Device_done : PySem.W.findIn K (.ref C_Device) "done" = some none)
    (n_Device_most : PySem.W.findIn K (.ref C_Device) "most" = some none)
    (pg_Pager : PySem.W.plainGet K C_Pager Str.empty = true)
    (hd_Pager : PySem.W.hasDictIn K C_Pager = true)
    (po_Pager : PySem.W.plainOver K C_Pager = true)
    (sa_Pager : PySem.W.findIn K (.ref C_Pager) "__setattr__" = some (some (.builtin "object.__setattr__")))
    (mk_Pager : PySem.W.makesIn K C_Pager = true)
    (kc_Pager : PySem.W.keepIn K (.ref C_Pager) = true)
    (n_Pager_device : PySem.W.findIn K (.ref C_Pager) "device" = some none)
    (n_Pager_committed : PySem.W.findIn K (.ref C_Pager) "committed" = some none)
    (n_Pager_dirty : PySem.W.findIn K (.ref C_Pager) "dirty" = some none)
    (xx_VaultError : PySem.W.excIn K C_VaultError [.type "ValueError", .type "Exception", .type "BaseException", .type "object"] "ValueError.__new__" = true)
    (xk_VaultError : PySem.W.keepIn K (.ref C_VaultError) = true)
    (xb_VaultError : PySem.W.subIn K (.ref C_VaultError) (.type "BaseException") = some true)
    (xt_VaultError : PySem.W.typeIn K (.ref C_VaultError) = some (.type "type"))
    (xi_VaultError : PySem.W.isClsIn K C_VaultError = true)
    (xs_VaultError : PySem.W.subIn K (.ref C_VaultError) (.ref C_VaultError) = some true)
    (xx_PowerCut : PySem.W.excIn K C_PowerCut [.type "ValueError", .type "Exception", .type "BaseException", .type "object"] "ValueError.__new__" = true)
    (xk_PowerCut : PySem.W.keepIn K (.ref C_PowerCut) = true)
    (xb_PowerCut : PySem.W.subIn K (.ref C_PowerCut) (.type "BaseException") = some true)
    (xt_PowerCut : PySem.W.typeIn K (.ref C_PowerCut) = some (.type "type"))
    (xi_PowerCut : PySem.W.isClsIn K C_PowerCut = true)
    (xs_PowerCut : PySem.W.subIn K (.ref C_PowerCut) (.ref C_PowerCut) = some true)
    (e_hg_PowerCut : PySem.W.findIn K (.ref C_PowerCut) "__getattribute__" = some (some (.builtin "BaseException.__getattribute__")))
    (e_hk_PowerCut : PySem.W.findIn K (.ref C_PowerCut) "__getattr__" = some none)
    (e_hs_PowerCut : PySem.W.subIn K (.ref C_PowerCut) (.type "BaseException") = some true)
    (e_hd_PowerCut : PySem.W.hasDictIn K C_PowerCut = true)
    (e_ha_PowerCut : PySem.W.findIn K (.ref C_PowerCut) "__class__" = some (some (.builtin "object.__class__")))
    (e_hm_PowerCut : PySem.W.mroIn K C_PowerCut (.type "object") = some true)
    (e_hn_PowerCut : PySem.W.specialIn K (.builtin "object.__class__") "__get__" = some (some (.builtin "getset_descriptor.__get__")))
    (e_ht_PowerCut : PySem.W.takesIn K (.builtin "object.__class__") = some true)
    : ∃ fd : FuncData, (∀ (s : Shared) (v : Value), BindsTo s fd ⟨[v], []⟩ [("_law_script", v)]) ∧ ∀ base : Heap, K.In base → base.Ns mainGlobals mg → FnOk l.prog w K mg base CX0 9 fa fd ["_law_script"] (sp_law K) := by
  have T : Txt K mg ⟨C_VaultError, C_PowerCut, C_Device, C_Pager⟩ := { f__wall := ⟨f1, _, fun_mk (st := s__wall) l1 c1 k1, PySem.W.mg_of X G a1⟩, f_Device___init__ := ⟨f2, _, fun_mk (st := s_Device___init__) l2 c2 k2, a2, i2⟩, f_Device_step := ⟨f3, _, fun_mk (st := s_Device_step) l3 c3 k3, a3, i3⟩, f_Device_write_page := ⟨f4, _, fun_mk (st := s_Device_write_page) l4 c4 k4, a4, i4⟩, f_Device_sync_pages := ⟨f5, _, fun_mk (st := s_Device_sync_pages) l5 c5 k5, a5, i5⟩, f_Device_append := ⟨f6, _, fun_mk (st := s_Device_append) l6 c6 k6, a6, i6⟩, f_Device_clear := ⟨f7, _, fun_mk (st := s_Device_clear) l7 c7 k7, a7, i7⟩, f_Device_sync_log := ⟨f8, _, fun_mk (st := s_Device_sync_log) l8 c8 k8, a8, i8⟩, f_Device_durable_page := ⟨f9, _, fun_mk (st := s_Device_durable_page) l9 c9 k9, a9, i9⟩, f_Device_page := ⟨f10, _, fun_mk (st := s_Device_page) l10 c10 k10, a10, i10⟩, f_Device_log := ⟨f11, _, fun_mk (st := s_Device_log) l11 c11 k11, a11, i11⟩, f_Device_limit := ⟨f12, _, fun_mk (st := s_Device_limit) l12 c12 k12, a12, i12⟩, f_Device_crash := ⟨f13, _, fun_mk (st := s_Device_crash) l13 c13 k13, a13, i13⟩, f_Device_steps := ⟨f14, _, fun_mk (st := s_Device_steps) l14 c14 k14, a14, i14⟩, f_Device_pending := ⟨f15, _, fun_mk (st := s_Device_pending) l15 c15 k15, a15, i15⟩, f_write_number := ⟨f16, _, fun_mk (st := s_write_number) l16 c16 k16, PySem.W.mg_of X G a16⟩, f_read_number := ⟨f17, _, fun_mk (st := s_read_number) l17 c17 k17, PySem.W.mg_of X G a17⟩, f_write_group := ⟨f18, _, fun_mk (st := s_write_group) l18 c18 k18, PySem.W.mg_of X G a18⟩, f_read_groups := ⟨f19, _, fun_mk (st := s_read_groups) l19 c19 k19, PySem.W.mg_of X G a19⟩, f_Pager___init__ := ⟨f20, _, fun_mk (st := s_Pager___init__) l20 c20 k20, a20, i20⟩, f_Pager_count_head := ⟨f21, _, fun_mk (st := s_Pager_count_head) l21 c21 k21, a21, i21⟩, f_Pager_read := ⟨f22, _, fun_mk (st := s_Pager_read) l22 c22 k22, a22, i22⟩, f_Pager_write := ⟨f23, _, fun_mk (st := s_Pager_write) l23 c23 k23, a23, i23⟩, f_Pager_field := ⟨f24, _, fun_mk (st := s_Pager_field) l24 c24 k24, a24, i24⟩, f_Pager_set_field := ⟨f25, _, fun_mk (st := s_Pager_set_field) l25 c25 k25, a25, i25⟩, f_Pager_allocate := ⟨f26, _, fun_mk (st := s_Pager_allocate) l26 c26 k26, a26, i26⟩, f_Pager_release := ⟨f27, _, fun_mk (st := s_Pager_release) l27 c27 k27, a27, i27⟩, f_Pager_commit := ⟨f28, _, fun_mk (st := s_Pager_commit) l28 c28 k28, a28, i28⟩, f_Pager_checkpoint := ⟨f29, _, fun_mk (st := s_Pager_checkpoint) l29 c29 k29, a29, i29⟩, f_Pager_rollback := ⟨f30, _, fun_mk (st := s_Pager_rollback) l30 c30 k30, a30, i30⟩, f__law_draw := ⟨f31, _, fun_mk (st := s__law_draw) l31 c31 k31, PySem.W.mg_of X G a31⟩, f__law_change := ⟨f32, _, fun_mk (st := s__law_change) l32 c32 k32, PySem.W.mg_of X G a32⟩, f__law_shown := ⟨f33, _, fun_mk (st := s__law_shown) l33 c33 k33, PySem.W.mg_of X G a33⟩, f__law_crash := ⟨f34, _, fun_mk (st := s__law_crash) l34 c34 k34, PySem.W.mg_of X G a34⟩, f__law_opened := ⟨f35, _, fun_mk (st := s__law_opened) l35 c35 k35, PySem.W.mg_of X G a35⟩, f__law_group_holds := ⟨f36, _, fun_mk (st := s__law_group_holds) l36 c36 k36, PySem.W.mg_of X G a36⟩, f__law_round := ⟨f37, _, fun_mk (st := s__law_round) l37 c37 k37, PySem.W.mg_of X G a37⟩, f_law := ⟨f38, _, fun_mk (st := s_law) l38 c38 k38, PySem.W.mg_of X G a38⟩, m_PAGE_SIZE := ⟨_, PySem.W.mg_of X G g_PAGE_SIZE⟩, m_HALF := ⟨_, PySem.W.mg_of X G g_HALF⟩, m_NUMBER_SIZE := ⟨_, PySem.W.mg_of X G g_NUMBER_SIZE⟩, m_FIELD_SIZE := ⟨_, PySem.W.mg_of X G g_FIELD_SIZE⟩, m_PAGES := ⟨_, PySem.W.mg_of X G g_PAGES⟩, z_ValueError := PySem.W.mg_none_of X G z_ValueError, z_all := PySem.W.mg_none_of X G z_all, z_dict := PySem.W.mg_none_of X G z_dict, z_int := PySem.W.mg_none_of X G z_int, z_len := PySem.W.mg_none_of X G z_len, z_list := PySem.W.mg_none_of X G z_list, z_min := PySem.W.mg_none_of X G z_min, z_range := PySem.W.mg_none_of X G z_range, z_reversed := PySem.W.mg_none_of X G z_reversed, z_sorted := PySem.W.mg_none_of X G z_sorted, cl_Device := ⟨pg_Device, hd_Device, po_Device, sa_Device⟩, mk_Device := ⟨mk_Device, kc_Device⟩, mg_Device := PySem.W.mg_of X G aC_Device, n_Device_pages := n_Device_pages, n_Device_page_writes := n_Device_page_writes, n_Device_durable_log := n_Device_durable_log, n_Device_log_steps := n_Device_log_steps, n_Device_done := n_Device_done, n_Device_most := n_Device_most, cl_Pager := ⟨pg_Pager, hd_Pager, po_Pager, sa_Pager⟩, mk_Pager := ⟨mk_Pager, kc_Pager⟩, mg_Pager := PySem.W.mg_of X G aC_Pager, n_Pager_device := n_Pager_device, n_Pager_committed := n_Pager_committed, n_Pager_dirty := n_Pager_dirty, ex_VaultError := ⟨PySem.W.mg_of X G aC_VaultError, xx_VaultError, xk_VaultError, xb_VaultError, xt_VaultError, xi_VaultError, xs_VaultError⟩, ex_PowerCut := ⟨PySem.W.mg_of X G aC_PowerCut, xx_PowerCut, xk_PowerCut, xb_PowerCut, xt_PowerCut, xi_PowerCut, xs_PowerCut⟩, ec_PowerCut := ⟨e_hg_PowerCut, e_hk_PowerCut, e_hs_PowerCut, e_hd_PowerCut, e_ha_PowerCut, e_hn_PowerCut, e_ht_PowerCut, e_hm_PowerCut⟩ }
  have e := hfa.symm.trans (PySem.W.mg_of X G a38)
  cases e
  refine ⟨PySem.W.fnOf "law" "law" (defArgs s_law) (defBody s_law) (defScope s_law) .none kV38 dc38 pm38 an38 cd38 ct38, fun s v => .of_eq rfl, fun base _ _ => ?_⟩
  exact ok_law (fun_mk (st := s_law) l38 c38 k38) T
theorem walk {l : PySem.W.OpenLaw} {q : Program} {loose : List Str} {XP : (Str → Option Value) → Heap → Prop} {YP : World → Heap → Prop} {d : DefRec} {K : Params → PySem.W.Frag} (hn : l.most = some 63) (hdf : d.params.defaults = [])
    (hY : ∀ (w : World) (h : Heap), YP w h → (K w.params).In h)
    (F : ∀ (w : World) (mg : Str → Option Value) (fa : Addr) (h : Heap), (K w.params).In h → h.Ns mainGlobals mg → mg d.name = some (.ref fa) →
      ∃ fd : FuncData, (∀ (s : Shared) (u : Value), BindsTo s fd ⟨[u], []⟩ [("_law_script", u)]) ∧ ∀ base : Heap, (K w.params).In base → base.Ns mainGlobals mg → FnOk l.prog w (K w.params) mg base CX0 9 fa fd ["_law_script"] (sp_law (K w.params))) :
    PySem.W.WalkO q loose XP YP l.row.toRowW d [] (fun f vs => PySem.call f vs) :=
  L2.walk_of (n := 63) (k := 9) (x := "_law_script") (CX := fun _ => CX0) (sp := fun w => sp_law (K w.params)) hn (by decide) hdf ⟨rfl, by decide, by decide⟩ hY F (fun _ _ a ns hl hO hS => ⟨a, ns, rfl, Sc.of hO hS, hl, fun _ => rfl⟩) fun _ _ _ _ _ z => z
end NV
open PySem PySem.W PyProof.Rows
set_option maxRecDepth 100000 in
set_option maxHeartbeats 0 in
theorem PySem.Challenge.cw_nearvault_k06_whole_pagers_and_power_holds : PySem.Challenge.rw_nearvault_k06_whole_pagers_and_power.Holds := by
  w_on; o_law; k_head; (case hw => w_witness2)
  k_fill
  refine NV.walk (l := PySem.Challenge.rw_nearvault_k06_whole_pagers_and_power) rfl rfl (fun w h Y => PySem.W.kIn_of Y) ?F
  case F =>
    intro w mg fa h KX G hmg
    refine' NV.all_mk KX G hmg ?aC_VaultError ?aC_PowerCut ?aC_Device ?aC_Pager ?a1 ?l1 ?c1 ?k1 ?a2 ?i2 ?l2 ?c2 ?k2 ?a3 ?i3 ?l3 ?c3 ?k3 ?a4 ?i4 ?l4 ?c4 ?k4 ?a5 ?i5 ?l5 ?c5 ?k5 ?a6 ?i6 ?l6 ?c6 ?k6 ?a7 ?i7 ?l7 ?c7 ?k7 ?a8 ?i8 ?l8 ?c8 ?k8 ?a9 ?i9 ?l9 ?c9 ?k9 ?a10 ?i10 ?l10 ?c10 ?k10 ?a11 ?i11 ?l11 ?c11 ?k11 ?a12 ?i12 ?l12 ?c12 ?k12 ?a13 ?i13 ?l13 ?c13 ?k13 ?a14 ?i14 ?l14 ?c14 ?k14 ?a15 ?i15 ?l15 ?c15 ?k15 ?a16 ?l16 ?c16 ?k16 ?a17 ?l17 ?c17 ?k17 ?a18 ?l18 ?c18 ?k18 ?a19 ?l19 ?c19 ?k19 ?a20 ?i20 ?l20 ?c20 ?k20 ?a21 ?i21 ?l21 ?c21 ?k21 ?a22 ?i22 ?l22 ?c22 ?k22 ?a23 ?i23 ?l23 ?c23 ?k23 ?a24 ?i24 ?l24 ?c24 ?k24 ?a25 ?i25 ?l25 ?c25 ?k25 ?a26 ?i26 ?l26 ?c26 ?k26 ?a27 ?i27 ?l27 ?c27 ?k27 ?a28 ?i28 ?l28 ?c28 ?k28 ?a29 ?i29 ?l29 ?c29 ?k29 ?a30 ?i30 ?l30 ?c30 ?k30 ?a31 ?l31 ?c31 ?k31 ?a32 ?l32 ?c32 ?k32 ?a33 ?l33 ?c33 ?k33 ?a34 ?l34 ?c34 ?k34 ?a35 ?l35 ?c35 ?k35 ?a36 ?l36 ?c36 ?k36 ?a37 ?l37 ?c37 ?k37 ?a38 ?l38 ?c38 ?k38 ?g_PAGE_SIZE ?g_HALF ?g_NUMBER_SIZE ?g_FIELD_SIZE ?g_PAGES ?z_ValueError ?z_all ?z_dict ?z_int ?z_len ?z_list ?z_min ?z_range ?z_reversed ?z_sorted ?pg_Device ?hd_Device ?po_Device ?sa_Device ?mk_Device ?kc_Device ?n_Device_pages ?n_Device_page_writes ?n_Device_durable_log ?n_Device_log_steps ?n_Device_done ?n_Device_most ?pg_Pager ?hd_Pager ?po_Pager ?sa_Pager ?mk_Pager ?kc_Pager ?n_Pager_device ?n_Pager_committed ?n_Pager_dirty ?xx_VaultError ?xk_VaultError ?xb_VaultError ?xt_VaultError ?xi_VaultError ?xs_VaultError ?xx_PowerCut ?xk_PowerCut ?xb_PowerCut ?xt_PowerCut ?xi_PowerCut ?xs_PowerCut ?e_hg_PowerCut ?e_hk_PowerCut ?e_hs_PowerCut ?e_hd_PowerCut ?e_ha_PowerCut ?e_hm_PowerCut ?e_hn_PowerCut ?e_ht_PowerCut
    (case aC_VaultError => k_is)
    (case aC_PowerCut => k_is)
    (case aC_Device => k_is)
    (case aC_Pager => k_is)
    (case a1 => k_is)
    (case l1 => k_is)
    (case c1 => k_is)
    (case k1 => k_is)
    (case a2 => k_is)
    (case i2 => k_is)
    (case l2 => k_is)
    (case c2 => k_is)
    (case k2 => k_is)
    (case a3 => k_is)
    (case i3 => k_is)
    (case l3 => k_is)
    (case c3 => k_is)
    (case k3 => k_is)
    (case a4 => k_is)
    (case i4 => k_is)
    (case l4 => k_is)
    (case c4 => k_is)
    (case k4 => k_is)
    (case a5 => k_is)
    (case i5 => k_is)
    (case l5 => k_is)
    (case c5 => k_is)
    (case k5 => k_is)
    (case a6 => k_is)
    (case i6 => k_is)
    (case l6 => k_is)
    (case c6 => k_is)
    (case k6 => k_is)
    (case a7 => k_is)
    (case i7 => k_is)
    (case l7 => k_is)
    (case c7 => k_is)
    (case k7 => k_is)
    (case a8 => k_is)
    (case i8 => k_is)
    (case l8 => k_is)
    (case c8 => k_is)
    (case k8 => k_is)
    (case a9 => k_is)
    (case i9 => k_is)
    (case l9 => k_is)
    (case c9 => k_is)
    (case k9 => k_is)
    (case a10 => k_is)
    (case i10 => k_is)
    (case l10 => k_is)
    (case c10 => k_is)
    (case k10 => k_is)
    (case a11 => k_is)
    (case i11 => k_is)
    (case l11 => k_is)
    (case c11 => k_is)
    (case k11 => k_is)
    (case a12 => k_is)
    (case i12 => k_is)
    (case l12 => k_is)
    (case c12 => k_is)
    (case k12 => k_is)
    (case a13 => k_is)
    (case i13 => k_is)
    (case l13 => k_is)
    (case c13 => k_is)
    (case k13 => k_is)
    (case a14 => k_is)
    (case i14 => k_is)
    (case l14 => k_is)
    (case c14 => k_is)
    (case k14 => k_is)
    (case a15 => k_is)
    (case i15 => k_is)
    (case l15 => k_is)
    (case c15 => k_is)
    (case k15 => k_is)
    (case a16 => k_is)
    (case l16 => k_is)
    (case c16 => k_is)
    (case k16 => k_is)
    (case a17 => k_is)
    (case l17 => k_is)
    (case c17 => k_is)
    (case k17 => k_is)
    (case a18 => k_is)
    (case l18 => k_is)
    (case c18 => k_is)
    (case k18 => k_is)
    (case a19 => k_is)
    (case l19 => k_is)
    (case c19 => k_is)
    (case k19 => k_is)
    (case a20 => k_is)
    (case i20 => k_is)
    (case l20 => k_is)
    (case c20 => k_is)
    (case k20 => k_is)
    (case a21 => k_is)
    (case i21 => k_is)
    (case l21 => k_is)
    (case c21 => k_is)
    (case k21 => k_is)
    (case a22 => k_is)
    (case i22 => k_is)
    (case l22 => k_is)
    (case c22 => k_is)
    (case k22 => k_is)
    (case a23 => k_is)
    (case i23 => k_is)
    (case l23 => k_is)
    (case c23 => k_is)
    (case k23 => k_is)
    (case a24 => k_is)
    (case i24 => k_is)
    (case l24 => k_is)
    (case c24 => k_is)
    (case k24 => k_is)
    (case a25 => k_is)
    (case i25 => k_is)
    (case l25 => k_is)
    (case c25 => k_is)
    (case k25 => k_is)
    (case a26 => k_is)
    (case i26 => k_is)
    (case l26 => k_is)
    (case c26 => k_is)
    (case k26 => k_is)
    (case a27 => k_is)
    (case i27 => k_is)
    (case l27 => k_is)
    (case c27 => k_is)
    (case k27 => k_is)
    (case a28 => k_is)
    (case i28 => k_is)
    (case l28 => k_is)
    (case c28 => k_is)
    (case k28 => k_is)
    (case a29 => k_is)
    (case i29 => k_is)
    (case l29 => k_is)
    (case c29 => k_is)
    (case k29 => k_is)
    (case a30 => k_is)
    (case i30 => k_is)
    (case l30 => k_is)
    (case c30 => k_is)
    (case k30 => k_is)
    (case a31 => k_is)
    (case l31 => k_is)
    (case c31 => k_is)
    (case k31 => k_is)
    (case a32 => k_is)
    (case l32 => k_is)
    (case c32 => k_is)
    (case k32 => k_is)
    (case a33 => k_is)
    (case l33 => k_is)
    (case c33 => k_is)
    (case k33 => k_is)
    (case a34 => k_is)
    (case l34 => k_is)
    (case c34 => k_is)
    (case k34 => k_is)
    (case a35 => k_is)
    (case l35 => k_is)
    (case c35 => k_is)
    (case k35 => k_is)
    (case a36 => k_is)
    (case l36 => k_is)
    (case c36 => k_is)
    (case k36 => k_is)
    (case a37 => k_is)
    (case l37 => k_is)
    (case c37 => k_is)
    (case k37 => k_is)
    (case a38 => k_is)
    (case l38 => k_is)
    (case c38 => k_is)
    (case k38 => k_is)
    (case g_PAGE_SIZE => k_is)
    (case g_HALF => k_is)
    (case g_NUMBER_SIZE => k_is)
    (case g_FIELD_SIZE => k_is)
    (case g_PAGES => k_is)
    (case z_ValueError => k_is)
    (case z_all => k_is)
    (case z_dict => k_is)
    (case z_int => k_is)
    (case z_len => k_is)
    (case z_list => k_is)
    (case z_min => k_is)
    (case z_range => k_is)
    (case z_reversed => k_is)
    (case z_sorted => k_is)
    (case pg_Device => k_is)
    (case hd_Device => k_is)
    (case po_Device => k_is)
    (case sa_Device => k_is)
    (case mk_Device => k_is)
    (case kc_Device => k_is)
    (case n_Device_pages => k_is)
    (case n_Device_page_writes => k_is)
    (case n_Device_durable_log => k_is)
    (case n_Device_log_steps => k_is)
    (case n_Device_done => k_is)
    (case n_Device_most => k_is)
    (case pg_Pager => k_is)
    (case hd_Pager => k_is)
    (case po_Pager => k_is)
    (case sa_Pager => k_is)
    (case mk_Pager => k_is)
    (case kc_Pager => k_is)
    (case n_Pager_device => k_is)
    (case n_Pager_committed => k_is)
    (case n_Pager_dirty => k_is)
    (case xx_VaultError => k_exc)
    (case xk_VaultError => k_is)
    (case xb_VaultError => k_is)
    (case xt_VaultError => k_is)
    (case xi_VaultError => k_is)
    (case xs_VaultError => (first | rfl | k_is))
    (case xx_PowerCut => k_exc)
    (case xk_PowerCut => k_is)
    (case xb_PowerCut => k_is)
    (case xt_PowerCut => k_is)
    (case xi_PowerCut => k_is)
    (case xs_PowerCut => (first | rfl | k_is))
    (case e_hg_PowerCut => (first | k_is | rfl | decide +kernel))
    (case e_hk_PowerCut => (first | k_is | rfl | decide +kernel))
    (case e_hs_PowerCut => (first | k_is | rfl | decide +kernel))
    (case e_hd_PowerCut => (first | k_is | rfl | decide +kernel))
    (case e_ha_PowerCut => (first | k_is | rfl | decide +kernel))
    (case e_hm_PowerCut => (first | k_is | rfl | decide +kernel))
    (case e_hn_PowerCut => (first | k_is | rfl | decide +kernel))
    (case e_ht_PowerCut => (first | k_is | rfl | decide +kernel))
