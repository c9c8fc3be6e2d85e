import PyProof.Rows.All
import Wide.All
import OpenK.AllK
import Wide.FinOn
import HandS.ForMost
import HandS.ForExc
import HandS.Wide
import HandS.IsInst
import HandS.More
import HandS.RevRange
import HandS.TupAny
import HandS.TupLe
import HandS.SortInts
import HandS.Small
import HandS.Codes
import HandS.WideBits
import HandS.ExcIs
import HandS.SetFor
import PySem.Challenge.RW_nearvault_k19_steps_and_log_of_pagers
set_option Elab.async false
set_option linter.all false
set_option maxRecDepth 100000
set_option maxHeartbeats 4000000
/-! Nearvault: what all claims share. -/
namespace NV
open PySem L2

/-! ### packaged callables -/
section
variable (P : Program) (w : World) (K : PySem.W.Frag) (mg : Str → Option Value) (base : Heap)
/-- the def that the module's name x holds keeps its promise -/
def GF (CX : CXT) (k : Nat) (x : Str) (sp : Sp) : Prop := ∃ f fd ps, FnOk P w K mg base CX k f fd ps sp ∧ mg x = some (.ref f) ∧ PySem.W.keepIn K (.ref f) = true ∧ Binds K fd ps []
/-- the method m of the class at C -/
def GM (CX : CXT) (k : Nat) (C : Addr) (m : Str) (sp : Sp) : Prop := ∃ f fd ps, FnOk P w K mg base CX k f fd ps sp ∧ Meth K C m f ∧ Binds K fd ps []
/-- the class at C by its __init__ -/
def GC (CX : CXT) (k : Nat) (x : Str) (C : Addr) (sp : Sp) : Prop := ∃ f fd ps, FnOk P w K mg base CX k f fd ps sp ∧ Mk K C f ∧ mg x = some (.ref C) ∧ Binds K fd ps []
end

section
variable {X : Cx} {CX : CXT} {k : Nat} {x : Str} {sp : Sp} {E : L2.St → XK} {p pos apos : Pos} {e o : Expr} {es : List Expr} {t : TA} {ta : TE} {C : Addr} {m : Str} {pl : Sem Bool}
theorem pass0S : ∀ σ, PassesAt CX0 X σ ((fun _ => E0) σ) := fun _ _ _ _ _ _ _ h => h.elim
theorem passN : ∀ σ, PassesAt (L2.CX X.prog X.w) X σ ((fun _ => E0) σ) := fun σ pins H s e s' I c => passL pins σ H s e s' I c
theorem pe_g (G : GF X.prog X.w X.K X.mg X.base CX k x sp) (hr : Room k X.A) (hx : ∀ σ, PassesAt CX X σ (E σ)) (ha : PA X (e :: es) t) (hg : Gl X x := by rfl)
    (hdb : (x == ("__debug__" : Str)) = false := by decide) (he : starEach (e :: es) X.env = (false, eval e X.env) :: starEach es X.env := by rfl) (hpl : (backTo pos (starEach es X.env)).any (·.1) = false := by rfl) :
    PE X (.Call (.Name x p) (e :: es) [] pos) (tCallS sp E t) := by
  obtain ⟨f, fd, ps, F, hm, hk, hb⟩ := G
  exact pe_callS F hr hg hm hk hb hx ha hdb he hpl
theorem pe_g0 (G : GF X.prog X.w X.K X.mg X.base CX k x sp) (hr : Room k X.A) (hx : ∀ σ, PassesAt CX X σ (E σ)) (hg : Gl X x := by rfl)
    (hdb : (x == ("__debug__" : Str)) = false := by decide) : PE X (.Call (.Name x p) [] [] pos) (tCallS sp E tNil) := by
  obtain ⟨f, fd, ps, F, hm, hk, hb⟩ := G
  refine ⟨fun pins s σ H Q I h => wpAny_Call_Name_kw (ld_glob I hg hm ?_ hdb)⟩
  exact PySem.W.callWith_K0 I.kIn hk (run_fnS (us := []) F hr hb (hx σ) I .nil h)
/-- o.m(e, ..), what is raised wished for at the caller's slots -/
def tMethS (C : Addr) (m : Str) (sp : Sp) (E : L2.St → XK) (ta : TE) (t : TA) : TE := fun σ H Q => ta σ H fun x H1 => ∃ a dx fs, x = .ref a ∧ H1 a = some (.ins C dx fs) ∧ fs.lookup m = none ∧ t σ H1 fun vs H2 => sp (.ref a :: vs) H2 Q (E σ)
theorem pe_gm (c : Cls X.K C) (G : GM X.prog X.w X.K X.mg X.base CX k C m sp) (ho : PE X o ta) (hr : Room k X.A) (hx : ∀ σ, PassesAt CX X σ (E σ)) (ha : PA X (e :: es) t)
    (he : starEach (e :: es) X.env = (false, eval e X.env) :: starEach es X.env := by rfl) (hpl : (backTo pos (starEach es X.env)).any (·.1) = false := by rfl)
    (ht : eval (.Call (.Attribute o m apos) (e :: es) [] pos) X.env = (do
      let ov ← eval o X.env; standAt apos.atName; let (f, first) ← holding [ov] (getMethod ov m pl); callWith pos f first (backTo pos (starEach (e :: es) X.env)) (backToKw pos (keywordEach [] X.env))) := by rfl) :
    PE X (.Call (.Attribute o m apos) (e :: es) [] pos) (tMethS C m sp E ta t) := by
  obtain ⟨f, fd, ps, F, hm, hb⟩ := G
  refine ⟨fun pins s σ H Q I h => PySem.W.methodCall_KW (pl := pl) (thn (ho.run pins s σ H _ I h) fun u s1 ⟨y, H1, I1, ry, a, dx, fs, ey, ea, l, q⟩ => ?_) ht⟩
  subst ey
  cases (show u = Value.ref a from ry)
  refine getmeth_ok I1 ea c hm l (PySem.W.callWith_K (first := [.ref a]) (h₀ := X.base) I.ok.mod.kin hm.kp (thn (ha.run pos pins s1 σ H1 _ I1 q) fun us s2 ⟨vs, H2, I2, r, q2⟩ => ⟨I2.kIn, ?_⟩) he hpl)
  exact run_fnS (us := .ref a :: us) (vs := .ref a :: vs) F hr hb (hx σ) I2 (.cons rfl r) q2
theorem pe_gm0 (c : Cls X.K C) (G : GM X.prog X.w X.K X.mg X.base CX k C m sp) (ho : PE X o ta) (hr : Room k X.A) (hx : ∀ σ, PassesAt CX X σ (E σ))
    (ht : eval (.Call (.Attribute o m apos) [] [] pos) X.env = (do
      let ov ← eval o X.env; standAt apos.atName; let (f, first) ← holding [ov] (getMethod ov m pl); callWith pos f first (backTo pos (starEach [] X.env)) (backToKw pos (keywordEach [] X.env))) := by rfl) :
    PE X (.Call (.Attribute o m apos) [] [] pos) (tMethS C m sp E ta tNil) := by
  obtain ⟨f, fd, ps, F, hm, hb⟩ := G
  refine ⟨fun pins s σ H Q I h => PySem.W.methodCall_KW (pl := pl) (thn (ho.run pins s σ H _ I h) fun u s1 ⟨y, H1, I1, ry, a, dx, fs, ey, ea, l, q⟩ => ?_) ht⟩
  subst ey
  cases (show u = Value.ref a from ry)
  exact getmeth_ok I1 ea c hm l (PySem.W.callWith_K0 (first := [.ref a]) I1.kIn hm.kp (run_fnS (us := [.ref a]) (vs := [.ref a]) F hr hb (hx σ) I1 (.cons rfl .nil) q))
/-- C(e, ..), what is raised wished for at the caller's slots -/
def tMakeS (C : Addr) (sp : Sp) (E : L2.St → XK) (t : TA) : TE := fun σ H Q => t σ H fun vs H1 => ∀ x dx, H1 x = none → H1 dx = none → dx ≠ x →
  sp (.ref x :: vs) (upd (upd H1 dx (.own x)) x (.ins C dx [])) (fun v H2 => v = .non ∧ Q (.ref x) H2) (E σ)
theorem run_mkS {pins : List (Addr × Obj)} {σ : L2.St} {H : Hp} {s : Shared} {Q : VK} {us : List Value} {vs : List V} {f : Addr} {fd : FuncData} {ps : List Str} (M : Mk X.K C f) (F : FnOk X.prog X.w X.K X.mg X.base CX k f fd ps sp)
    (hr : Room (k + 1) X.A) (hb : Binds X.K fd ps []) (hx : PassesAt CX X σ (E σ)) (I : Inv X pins σ H s) (r : Vals vs us)
    (h : ∀ x dx, H x = none → H dx = none → dx ≠ x → sp (.ref x :: vs) (upd (upd H dx (.own x)) x (.ins C dx [])) (fun v H2 => v = .non ∧ Q (.ref x) H2) (E σ)) :
    wpAny (model X.prog X.w) X.A (call (.ref C) us) (EP X pins σ Q) X.xe s := by
  have z := h (s.heap.objs.size + 1) s.heap.objs.size (I.hok.fresh (Nat.le_succ _)) (I.hok.fresh (Nat.le_refl _)) (Nat.ne_of_lt (Nat.lt_succ_self _))
  have J := Inv.made (C := C) I
  have rr : Vals (V.ref (s.heap.objs.size + 1) :: vs) (Value.ref (s.heap.objs.size + 1) :: us) := .cons rfl r
  have len : (Value.ref (s.heap.objs.size + 1) :: us).length = ps.length := rr.length.symm.trans (F.len _ _ _ _ z)
  have b := hb _ (Value.ref (s.heap.objs.size + 1) :: us) J.kIn (by rw [List.append_nil]; exact len)
  rw [List.append_nil] at b
  refine wpAny_call (make_map (f := f) I.kIn M.makes M.init (beq_iff_eq.mp M.fn) (codeAny_mono (F.run _ X.stack _ _ _ _ _ _ _ (hr.make C us []) (J.env0.make C us []) b rr z) fun res s' hq => ?_))
  cases res with
  | error e => exact hx pins _ _ e s' J hq
  | ok fl =>
    cases fl with
    | ret u =>
      obtain ⟨v, H', I3, rv, ev, q3⟩ := J.after hq
      subst ev
      exact ⟨rv, V.ref (s.heap.objs.size + 1), H', I3, rfl, q3⟩
    | next => cases hq
    | brk => cases hq
    | cont => cases hq
theorem pe_gc (G : GC X.prog X.w X.K X.mg X.base CX k x C sp) (hr : Room (k + 1) X.A) (hx : ∀ σ, PassesAt CX X σ (E σ)) (ha : PA X (e :: es) t) (hg : Gl X x := by rfl)
    (hdb : (x == ("__debug__" : Str)) = false := by decide) (he : starEach (e :: es) X.env = (false, eval e X.env) :: starEach es X.env := by rfl) (hpl : (backTo pos (starEach es X.env)).any (·.1) = false := by rfl) :
    PE X (.Call (.Name x p) (e :: es) [] pos) (tMakeS C sp E t) := by
  obtain ⟨f, fd, ps, F, M, hm, hb⟩ := G
  refine ⟨fun pins s σ H Q I h => wpAny_Call_Name_kw (ld_glob I hg hm ?_ hdb)⟩
  exact PySem.W.callWith_K (h₀ := X.base) I.ok.mod.kin M.kp (thn (ha.run pos pins s σ H _ I h) fun us s1 ⟨vs, H1, I1, r, q⟩ => ⟨I1.kIn, run_mkS M F hr hb (hx σ) I1 r q⟩) he hpl
theorem pe_gc0 (G : GC X.prog X.w X.K X.mg X.base CX k x C sp) (hr : Room (k + 1) X.A) (hx : ∀ σ, PassesAt CX X σ (E σ)) (hg : Gl X x := by rfl)
    (hdb : (x == ("__debug__" : Str)) = false := by decide) : PE X (.Call (.Name x p) [] [] pos) (tMakeS C sp E tNil) := by
  obtain ⟨f, fd, ps, F, M, hm, hb⟩ := G
  refine ⟨fun pins s σ H Q I h => wpAny_Call_Name_kw (ld_glob I hg hm ?_ hdb)⟩
  exact PySem.W.callWith_K0 I.kIn M.kp (run_mkS (us := []) M F hr hb (hx σ) I .nil h)
end

/-! ### heaps: what a step keeps -/
/-- what never changes -/
def Fix : HO → Prop
  | .tup _ => True
  | .frz _ _ => True
  | _ => False
/-- all that was tracked is as it was, but at F (where what never changes is kept too) -/
def Kp (F : Addr → Prop) (H H' : Hp) : Prop := ∀ b o, H b = some o → (F b → Fix o) → H' b = some o
abbrev F0 : Addr → Prop := fun _ => False
abbrev F1 (a : Addr) : Addr → Prop := fun b => b = a
theorem Kp.refl {F : Addr → Prop} (H : Hp) : Kp F H H := fun _ _ h _ => h
theorem Kp.get {F : Addr → Prop} {H H' : Hp} {b : Addr} {o : HO} (s : Kp F H H') (h : H b = some o) (n : ¬ F b) : H' b = some o := s b o h fun z => (n z).elim
theorem Kp.fix {F : Addr → Prop} {H H' : Hp} {b : Addr} {o : HO} (s : Kp F H H') (h : H b = some o) (n : Fix o) : H' b = some o := s b o h fun _ => n
theorem Kp.tup {F : Addr → Prop} {H H' : Hp} {b : Addr} {xs : List V} (s : Kp F H H') (h : H b = some (.tup xs)) : H' b = some (.tup xs) := s.fix h trivial
theorem Kp.free {F : Addr → Prop} {H H' : Hp} {b : Addr} (s : Kp F H H') (h : H' b = none) (n : ¬ F b) : H b = none := by
  cases e : H b with
  | none => rfl
  | some o => rw [s.get e n] at h; cases h
theorem Kp.mono {F G : Addr → Prop} {H H' : Hp} (s : Kp F H H') (h : ∀ b, F b → G b ∨ H b = none) : Kp G H H' := fun b o e n => s b o e fun f => by
  rcases h b f with g | g
  · exact n g
  · rw [e] at g; cases g
theorem Kp.trans {F G : Addr → Prop} {H H1 H2 : Hp} (s : Kp F H H1) (t : Kp G H1 H2) (h : ∀ b, G b → F b ∨ H b = none) : Kp F H H2 := fun b o e n =>
  t b o (s b o e n) fun g => by
    rcases h b g with f | f
    · exact n f
    · rw [e] at f; cases f
theorem Kp.new {H : Hp} {p : Addr} {o : HO} (h : H p = none) : Kp F0 H (upd H p o) := fun b u e _ => by
  rw [upd_ne (ne_of_none e h)]
  exact e
theorem Kp.put {H : Hp} {l : Addr} {o u : HO} (h : H l = some u) (n : ¬ Fix u) : Kp (F1 l) H (upd H l o) := fun b v e k => by
  have nb : b ≠ l := fun z => by
    subst z; rw [h] at e; cases e
    exact n (k rfl)
  rw [upd_ne nb]
  exact e
theorem upd_id {H : Hp} {a : Addr} {o : HO} (h : H a = some o) : upd H a o = H := by
  funext b; unfold upd
  by_cases e : b = a
  · rw [if_pos e, e, h]
  · rw [if_neg e]
theorem Kp.same {H H' : Hp} (s : Same H H') : Kp F0 H H' := fun b o e _ => s b o e
theorem Kp.to_same {H H' : Hp} (s : Kp F0 H H') : Same H H' := fun b o e => s b o e fun z => z.elim
theorem Kp.sqT {F : Addr → Prop} {K : PySem.W.Frag} {H H' : Hp} {a : Addr} {xs : List V} (s : Kp F H H') (h : SqT K H a xs) : SqT K H' a xs := by
  rcases h with (h | ⟨o, h⟩) | h
  · exact .inl (.inl (s.fix h trivial))
  · exact .inl (.inr ⟨o, s.fix h trivial⟩)
  · exact .inr h
theorem Kp.sqL {F : Addr → Prop} {K : PySem.W.Frag} {H H' : Hp} {a : Addr} {xs : List V} (s : Kp F H H') (h : SqL K H a xs) (n : ¬ F a) : SqL K H' a xs := by
  rcases h with (h | ⟨o, h⟩) | h
  · exact .inl (.inl (s.get h n))
  · exact .inl (.inr ⟨o, s.fix h trivial⟩)
  · exact .inr h

/-- the script: read, never written -/
def Sc (K : PySem.W.Frag) (H : Hp) (sc : Addr) (ns : List Int) : Prop := (∃ o, H sc = some (.frz o (.lst (ns.map V.int)))) ∨ ∀ H', SqL K H' sc (ns.map V.int)
theorem Sc.sq {K : PySem.W.Frag} {H : Hp} {sc : Addr} {ns : List Int} (h : Sc K H sc ns) : SqL K H sc (ns.map V.int) := by
  rcases h with ⟨o, h⟩ | h
  · exact .inl (.inr ⟨o, h⟩)
  · exact h H
theorem Sc.kp {K : PySem.W.Frag} {F : Addr → Prop} {H H' : Hp} {sc : Addr} {ns : List Int} (s : Kp F H H') (h : Sc K H sc ns) : Sc K H' sc ns := by
  rcases h with ⟨o, h⟩ | h
  · exact .inl ⟨o, s.fix h trivial⟩
  · exact .inr h

theorem Sc.of {K : PySem.W.Frag} {H : Hp} {a : Addr} {ns : List Int} (o : Only H) (h : SqL K H a (ns.map V.int)) : Sc K H a ns := by
  rcases h with (h | ⟨f, h⟩) | h
  · rcases o a with e | ⟨f, xs, e⟩
    · rw [h] at e; cases e
    · rw [h] at e; cases e
  · exact .inl ⟨f, h⟩
  · exact .inr fun _ => .inr h
/-- a new list, a new tuple -/
def rNewL (xs : List V) (H : Hp) (Q : VK) : Prop := xs.length ≤ sizeLine ∧ ∀ p, H p = none → Q (.ref p) (upd H p (.lst xs))
def rNewT (xs : List V) (H : Hp) (Q : VK) : Prop := xs.length ≤ sizeLine ∧ ∀ p, H p = none → Q (.ref p) (upd H p (.tup xs))

/-! ### readings under names of our own, and the steps that run them -/
section
variable {K : PySem.W.Frag} {σ : L2.St} {H : Hp} {Q : VK} {D : Ends} {ta tb tc te : TE} {t u : TS} {tt tt' : TT} {x y z v : V} {i : Nat} {g : TG} {r r' : R2} {vs : List V} {a p : Addr}
theorem x_seq (h : t { D with nx := u D } σ H) : tSeq t u D σ H := h
theorem x_cut (M : L2.St → Hp → Prop) (h : t { D with nx := M } σ H) (h2 : ∀ σ' H', M σ' H' → u D σ' H') : C8.tCut t u D σ H := ⟨M, h, h2⟩
theorem x_next (h : D.nx σ H) : tNext D σ H := h
theorem x_asg (h : te σ H fun x H1 => g x σ H1 D.nx) : tAsg te g D σ H := h
theorem x_drop (h : te σ H fun _ H1 => D.nx σ H1) : tDrop te D σ H := h
theorem x_ret (h : te σ H D.rt) : tRet te D σ H := h
theorem x_retN (h : D.rt .non H) : tRetN D σ H := h
theorem x_ifS (h : tt σ H fun b H1 => if b = true then t D σ H1 else u D σ H1) : tIfS tt t u D σ H := h
theorem x_var (e : σ[i]? = some (some v)) (h : Q v H) : tVar i σ H Q := ⟨v, e, h⟩
theorem x_c (h : Q v H) : tC v σ H Q := h
theorem x_op (h : ta σ H fun x H1 => tb σ H1 fun y H2 => r x y H2 Q) : tOp r ta tb σ H Q := h
theorem x_un {r : V → Hp → VK → Prop} (h : ta σ H fun x H1 => r x H1 Q) : tUn r ta σ H Q := h
theorem x_neg {f : Int → V} {m : Int} (h : Q (f m) H) : rU f (.int m) H Q := ⟨m, rfl, h⟩
theorem x_I0 {f : Int → Int → V} {m n : Int} (h : Q (f m n) H) : rI0 f (.int m) (.int n) H Q := ⟨m, n, rfl, rfl, h⟩
theorem x_I {C : Int → Int → Prop} {f : Int → Int → V} {m n : Int} (c : C m n) (h : Q (f m n) H) : rI C f (.int m) (.int n) H Q := ⟨m, n, rfl, rfl, c, h⟩
theorem x_eqI {m n : Int} (h : Q (.bl (decide (m = n))) H) : rEq (.int m) (.int n) H Q := ⟨rfl, by rw [show decide (V.int m = V.int n) = decide (m = n) by simp]; exact h⟩
theorem x_neI {m n : Int} (h : Q (.bl (!decide (m = n))) H) : rNe (.int m) (.int n) H Q := ⟨rfl, by rw [show decide (V.int m = V.int n) = decide (m = n) by simp]; exact h⟩
theorem x_eqS {m n : Str} (h : Q (.bl (decide (m = n))) H) : rEq (.str m) (.str n) H Q := ⟨rfl, by rw [show decide (V.str m = V.str n) = decide (m = n) by simp]; exact h⟩
theorem x_neS {m n : Str} (h : Q (.bl (!decide (m = n))) H) : rNe (.str m) (.str n) H Q := ⟨rfl, by rw [show decide (V.str m = V.str n) = decide (m = n) by simp]; exact h⟩
theorem x_eqB {m n : Bool} (h : Q (.bl (decide (m = n))) H) : rEq (.bl m) (.bl n) H Q := ⟨rfl, by rw [show decide (V.bl m = V.bl n) = decide (m = n) by simp]; exact h⟩
theorem x_neB {m n : Bool} (h : Q (.bl (!decide (m = n))) H) : rNe (.bl m) (.bl n) H Q := ⟨rfl, by rw [show decide (V.bl m = V.bl n) = decide (m = n) by simp]; exact h⟩
theorem x_tst {R : Bool → Hp → Prop} (h : te σ H fun x H1 => ∃ k, x = .bl k ∧ R k H1) : tTest te σ H R := h
theorem x_tB {R : Bool → Hp → Prop} (h : te σ H fun x H1 => ∃ k, x = .bl k ∧ R k H1) : tB te σ H R := h
theorem x_bl {b : Bool} {R : Bool → Prop} (h : R b) : ∃ k, V.bl b = .bl k ∧ R k := ⟨b, rfl, h⟩
theorem x_ifNT {A B : Prop} (h : B) : if (!true) = true then A else B := h
theorem x_ifNF {A B : Prop} (h : A) : if (!false) = true then A else B := h
theorem x_yes {R : Bool → Hp → Prop} (h : R true H) : tYes σ H R := h
theorem x_ifTT {A B : Prop} (h : A) : if true = true then A else B := by rw [if_pos rfl]; exact h
theorem x_ifFF {A B : Prop} (h : B) : if false = true then A else B := by rw [if_neg Bool.false_ne_true]; exact h
theorem x_bnot {b : Bool} {R : Bool → Prop} (h : R (!b)) : ∃ k, V.bl (!b) = .bl k ∧ R k := ⟨_, rfl, h⟩
theorem x_and {R : Bool → Hp → Prop} (h : tt σ H fun c H1 => if c = true then tt' σ H1 R else R false H1) : tAnd tt tt' σ H R := h
theorem x_or {R : Bool → Hp → Prop} (h : tt σ H fun c H1 => if c = true then R true H1 else tt' σ H1 R) : tOr tt tt' σ H R := h
theorem x_not {R : Bool → Hp → Prop} (h : tt σ H fun c H1 => R (!c) H1) : tNot tt σ H R := h
theorem x_andV (h : ta σ H fun x H1 => ∃ c, x = .bl c ∧ if c = true then tb σ H1 Q else Q (.bl false) H1) : tAndV ta tb σ H Q := h
theorem x_orV (h : ta σ H fun x H1 => ∃ c, x = .bl c ∧ if c = true then Q (.bl true) H1 else tb σ H1 Q) : tOrV ta tb σ H Q := h
theorem x_notV (h : ta σ H fun x H1 => ∃ c, x = .bl c ∧ Q (.bl (!c)) H1) : tNotV ta σ H Q := h
theorem x_ifE (h : tt σ H fun c H1 => if c = true then ta σ H1 Q else tb σ H1 Q) : tIf tt ta tb σ H Q := h
theorem x_ch (h : ta σ H fun x H1 => tb σ H1 fun y H2 => r x y H2 fun z H3 => ∃ k, z = .bl k ∧ (if k = true then tc σ H3 fun w' H4 => r' y w' H4 Q else Q (.bl false) H3)) : tChain r r' ta tb tc σ H Q := h
theorem x_nil {R : List V → Hp → Prop} (h : R [] H) : tNil σ H R := h
theorem x_cons {tr : TA} {R : List V → Hp → Prop} (h : ta σ H fun x H1 => tr σ H1 fun xs H2 => R (x :: xs) H2) : tCons ta tr σ H R := h
theorem x_tup {ts : TA} (h : ts σ H fun xs H1 => rNewT xs H1 Q) : tTup ts σ H Q := h
theorem x_lst {ts : TA} (h : ts σ H fun xs H1 => rNewL xs H1 Q) : tLst ts σ H Q := h
theorem x_newL {xs : List V} (h : ∀ p H1, H p = none → Kp F0 H H1 → H1 p = some (.lst xs) → Q (.ref p) H1) (h1 : Nat.ble xs.length 1000 = true := by rfl) : rNewL xs H Q := ⟨Nat.le_trans (Nat.le_of_ble_eq_true h1) (by decide), fun p hp => h p _ hp (Kp.new hp) upd_same⟩
theorem x_newT {xs : List V} (h : ∀ p H1, H p = none → Kp F0 H H1 → H1 p = some (.tup xs) → Q (.ref p) H1) (h1 : Nat.ble xs.length 1000 = true := by rfl) : rNewT xs H Q := ⟨Nat.le_trans (Nat.le_of_ble_eq_true h1) (by decide), fun p hp => h p _ hp (Kp.new hp) upd_same⟩
theorem x_cb {rr : List V → Hp → VK → Prop} {ts : TA} (h : ts σ H fun vs H1 => rr vs H1 Q) : tCB rr ts σ H Q := h
theorem x_callS {sp : Sp} {E : L2.St → XK} {ts : TA} (h : ts σ H fun vs H1 => sp vs H1 Q (E σ)) : tCallS sp E ts σ H Q := h
theorem x_gn {R : L2.St → Hp → Prop} (h : R (σ.set i (some v)) H) : gName i v σ H R := h
/-- a[i], o[i] = v -/
theorem x_ixL {xs : List V} {j : Int} (h : SqL K H p xs) (e : atI xs j = some v) (q : Q v H) : rIxL K (.ref p) (.int j) H Q := ⟨p, xs, j, v, rfl, rfl, h, e, q⟩
theorem x_ixT {xs : List V} {j : Int} (h : SqT K H p xs) (e : atI xs j = some v) (q : Q v H) : rIxT K (.ref p) (.int j) H Q := ⟨p, xs, j, v, rfl, rfl, h, e, q⟩
theorem x_sub {R : L2.St → Hp → Prop} {s : TSet} (h : ta σ H fun o H1 => tb σ H1 fun i H2 => s o i v H2 fun H3 => R σ H3) : gSub ta tb s v σ H R := h
theorem x_setL {xs : List V} {k : Int} {j : Nat} {R : Hp → Prop} (h : H p = some (.lst xs)) (e : ixN xs.length k = some j) (q : R (upd H p (.lst (xs.set j v)))) : rSetL (.ref p) (.int k) v H R := ⟨p, xs, k, j, rfl, rfl, h, e, q⟩
end
/-- len(xs) -/
def rLenQ (K : PySem.W.Frag) : List V → Hp → VK → Prop := fun xs H Q => ∃ p ys, xs = [.ref p] ∧ (SqL K H p ys ∨ SqT K H p ys) ∧ Q (.int ys.length) H
theorem c_len {X : Cx} : CallR X (.builtin "len") (rLenQ X.K) := call_len_seq
theorem x_lenL {K : PySem.W.Frag} {H : Hp} {Q : VK} {p : Addr} {ys : List V} (h : SqL K H p ys) (q : Q (.int ys.length) H) : rLenQ K [.ref p] H Q := ⟨p, ys, rfl, .inl h, q⟩
theorem x_lenT {K : PySem.W.Frag} {H : Hp} {Q : VK} {p : Addr} {ys : List V} (h : SqT K H p ys) (q : Q (.int ys.length) H) : rLenQ K [.ref p] H Q := ⟨p, ys, rfl, .inr h, q⟩
/-- int(n), int(flag) -/
def rIntQ : List V → Hp → VK → Prop := fun xs H Q => (∃ i, xs = [.int i] ∧ Q (.int i) H) ∨ ∃ k, xs = [.bl k] ∧ Q (.int (if k then 1 else 0)) H
theorem c_int {X : Cx} : CallR X (.type "int") rIntQ := call_int1
theorem x_intI {H : Hp} {Q : VK} {i : Int} (q : Q (.int i) H) : rIntQ [.int i] H Q := .inl ⟨i, rfl, q⟩
theorem x_intB {H : Hp} {Q : VK} {k : Bool} (q : Q (.int (if k then 1 else 0)) H) : rIntQ [.bl k] H Q := .inr ⟨k, rfl, q⟩
theorem ite_dec {p : Prop} [Decidable p] {A B : Prop} (h1 : p → A) (h2 : ¬ p → B) : if decide p = true then A else B := by
  by_cases h : p
  · rw [if_pos (decide_eq_true h)]; exact h1 h
  · rw [if_neg (by simpa using h)]; exact h2 h
theorem ite_ndec {p : Prop} [Decidable p] {A B : Prop} (h1 : ¬ p → A) (h2 : p → B) : if (!decide p) = true then A else B := by
  by_cases h : p
  · rw [if_neg (by simp [h])]; exact h2 h
  · rw [if_pos (by simp [h])]; exact h1 h
theorem ite_bool {b : Bool} {A B : Prop} (h1 : b = true → A) (h2 : b = false → B) : if b = true then A else B := by
  cases b
  · rw [if_neg Bool.false_ne_true]; exact h2 rfl
  · rw [if_pos rfl]; exact h1 rfl
/-- an item by its place -/
theorem atI_at {α : Type} {xs : List α} {j : Int} {v : α} (k : Nat) (e : j = (k : Int)) (h : xs[k]? = some v) : atI xs j = some v := by subst e; exact atI_nat h
theorem ixN_at {n : Nat} {j : Int} (k : Nat) (e : j = (k : Int)) (h : k < n) : ixN n j = some k := by
  subst e; unfold ixN
  rw [if_pos (by omega), if_pos (by omega)]; rfl
theorem fdiv_ok {a n : Int} (h0 : 0 < n) (h1 : n < 2 ^ 64) : CDivW a n := wide_div (b := 64) h0 (by omega) (by decide) (by decide)

/-! ### loops -/
/-- J walks xs while G holds -/
structure Wk (J : It) (G : Hp → Prop) (xs : List V) : Prop where
  go : ∀ i H, i < xs.length → G H → J.go i H
  yld : ∀ i H x H', i < xs.length → G H → J.yld i H x H' → H = H' ∧ xs[i]? = some x
  stop : ∀ H, G H → J.stop xs.length H
theorem Wk.list {K : PySem.W.Frag} {a : Addr} {xs : List V} : Wk (Itl K a) (fun H => SqL K H a xs) xs where
  go := fun i H h g => ⟨xs, xs[i], g, by simp [h]⟩
  yld := fun i H x H' _ g y => ⟨y.1.symm, y.2 xs g⟩
  stop := fun H g => ⟨xs, g, Nat.le_refl _⟩
theorem Wk.tup {K : PySem.W.Frag} {a : Addr} {xs : List V} : Wk (Itt K a) (fun H => SqT K H a xs) xs where
  go := fun i H h g => ⟨xs, xs[i], g, by simp [h]⟩
  yld := fun i H x H' _ g y => ⟨y.1.symm, y.2 xs g⟩
  stop := fun H g => ⟨xs, g, Nat.le_refl _⟩
def rgl (lo : Int) (n : Nat) : List V := (List.range n).map fun i => V.int (lo + (i : Nat))
theorem rgl_len {lo : Int} {n : Nat} : (rgl lo n).length = n := by unfold rgl; simp
theorem rgl_at {lo : Int} {n i : Nat} {x : V} (h : (rgl lo n)[i]? = some x) : i < n ∧ x = .int (lo + (i : Nat)) := by
  unfold rgl at h
  rw [List.getElem?_map] at h
  by_cases hi : i < n
  · rw [List.getElem?_range hi] at h
    exact ⟨hi, (Option.some.inj h).symm⟩
  · rw [List.getElem?_eq_none (by simpa using hi)] at h
    cases h
theorem Wk.rng {lo : Int} {n : Nat} : Wk (Itr lo n) (fun _ => True) (rgl lo n) where
  go := fun i H h _ => by rw [rgl_len] at h; exact h
  yld := fun i H x H' h _ y => by
    rw [rgl_len] at h
    refine ⟨y.1.symm, ?_⟩
    unfold rgl
    rw [List.getElem?_map, List.getElem?_range h, y.2]; rfl
  stop := fun H _ => by show n ≤ _; rw [rgl_len]; exact Nat.le_refl _
theorem wfor {J : It} {G : Hp → Prop} {xs : List V} {g : TG} {tb : TS} {D : Ends} {σ : L2.St} {H : Hp} (W : Wk J G xs) (Pv : Nat → L2.St → Hp → Prop) (h0 : Pv 0 σ H) (hG : ∀ i σ H, Pv i σ H → G H)
    (hs : ∀ i x σ H, xs[i]? = some x → Pv i σ H → g x σ H fun σ2 H2 => tb { D with nx := Pv (i + 1), ct := Pv (i + 1), bk := D.nx } σ2 H2) (hd : ∀ σ H, Pv xs.length σ H → D.nx σ H) :
    ∃ W : Nat → Nat → L2.St → Hp → Prop, (∃ m, W 0 m σ H) ∧ ∀ i m σ H, W i m σ H →
      (J.stop i H ∧ D.nx σ H) ∨ (J.go i H ∧ ∃ N : L2.St → Hp → Prop, (∀ σ' H', N σ' H' → ∃ m', m' < m ∧ W (i + 1) m' σ' H') ∧ ∀ x H', J.yld i H x H' → g x σ H' fun σ2 H2 => tb { D with nx := N, ct := N, bk := D.nx } σ2 H2) := by
  refine ⟨fun i m σ H => m = xs.length - i ∧ i ≤ xs.length ∧ Pv i σ H, ⟨_, rfl, Nat.zero_le _, h0⟩, ?_⟩
  rintro i m σ H ⟨rfl, hi, p⟩
  by_cases hlt : i < xs.length
  · refine .inr ⟨W.go i H hlt (hG _ _ _ p), Pv (i + 1), fun σ' H' p' => ⟨xs.length - (i + 1), by omega, rfl, hlt, p'⟩, fun x H' y => ?_⟩
    obtain ⟨rfl, e⟩ := W.yld i H x H' hlt (hG _ _ _ p) y
    exact hs i x σ _ e p
  · obtain rfl : i = xs.length := by omega
    exact .inl ⟨W.stop H (hG _ _ _ p), hd σ H p⟩
/-- a comprehension: F what its turns may change, S what stays true of the heap, Pv of the list so far -/
theorem wlc {J : It} {G : Hp → Prop} {xs : List V} {g : TG} {tt : TT} {te : TE} {vs : List Nat} {σ : L2.St} {H0 : Hp} {Qd : Addr → Hp → Prop} (W : Wk J G xs) (F : Addr → Prop) (S : Hp → Prop) (Pv : Nat → List V → Prop)
    (hF : ∀ b, F b → H0 b ≠ none) (hz : xs.length ≤ 100000) (hG : ∀ H', S H' → Kp F H0 H' → G H') (h0 : Pv 0 []) (hS : S H0) (hSt : ∀ D, H0 D = none → ∀ H' o, (∀ u, H' D = some u → ¬ Fix u) → S H' → S (upd H' D o))
    (hs : ∀ i x acc H' (R : V → Hp → Prop) (R0 : Hp → Prop), xs[i]? = some x → Pv i acc → S H' → Kp F H0 H' → (∀ y H4, Kp F H' H4 → S H4 → Pv (i + 1) (acc ++ [y]) → R y H4) → (∀ H4, Kp F H' H4 → S H4 → Pv (i + 1) acc → R0 H4) →
      g x (wipe σ vs) H' fun σ2 H2 => wipe σ2 vs = wipe σ vs ∧ tt σ2 H2 fun b H3 => if b = true then te σ2 H3 R else R0 H3)
    (hd : ∀ D H' acc, H0 D = none → H' D = some (.lst acc) → Pv xs.length acc → S H' → Kp F H0 H' → Qd D H') :
    ∀ D, H0 D = none → ∃ W : Nat → Nat → Hp → Prop, (∃ m, W 0 m (upd H0 D (.lst []))) ∧ ∀ i m H, W i m H →
      (J.stop i H ∧ Qd D H) ∨ (J.go i H ∧ ∃ Nx : Hp → Prop, (∀ H', Nx H' → ∃ m', m' < m ∧ W (i + 1) m' H') ∧ ∀ x H', J.yld i H x H' → g x (wipe σ vs) H' fun σ2 H2 => wipe σ2 vs = wipe σ vs ∧ tt σ2 H2 fun b H3 =>
        if b = true then te σ2 H3 fun y H4 => ∃ acc, H4 D = some (.lst acc) ∧ acc.length < sizeLine ∧ Nx (upd H4 D (.lst (acc ++ [y]))) else Nx H3) := by
  intro D hD
  have nFD : ¬ F D := fun z => hF D z hD
  refine ⟨fun i m H' => m = xs.length - i ∧ i ≤ xs.length ∧ ∃ acc, H' D = some (.lst acc) ∧ acc.length ≤ i ∧ Pv i acc ∧ S H' ∧ Kp F H0 H',
    ⟨_, rfl, Nat.zero_le _, [], upd_same, Nat.le_refl _, h0, hSt D hD _ _ (fun u z => by rw [hD] at z; cases z) hS, (Kp.new hD).mono fun b z => z.elim⟩, ?_⟩
  rintro i m H ⟨rfl, hi, acc, hacc, hl, p, hSH, kp⟩
  by_cases hlt : i < xs.length
  · refine .inr ⟨W.go i H hlt (hG _ hSH kp), _, fun H' z => ⟨xs.length - (i + 1), by omega, z⟩, fun x H' y => ?_⟩
    obtain ⟨rfl, e⟩ := W.yld i H x H' hlt (hG _ hSH kp) y
    refine hs i x acc _ _ _ e p hSH kp (fun y H4 k4 s4 p4 => ?_) (fun H4 k4 s4 p4 => ?_)
    · refine ⟨acc, k4.get hacc nFD, Nat.lt_of_le_of_lt (Nat.le_trans hl (Nat.le_trans hi hz)) (by decide), rfl, hlt, acc ++ [y], upd_same, by rw [List.length_append, List.length_singleton]; omega, p4, hSt D hD _ _ (fun u z => by rw [k4.get hacc nFD] at z; cases z; exact id) s4, ?_⟩
      intro b o hb n
      rw [upd_ne (ne_of_none hb hD)]
      exact k4 b o (kp b o hb n) n
    · exact ⟨rfl, hlt, acc, k4.get hacc nFD, by omega, p4, s4, fun b o hb n => k4 b o (kp b o hb n) n⟩
  · obtain rfl : i = xs.length := by omega
    exact .inl ⟨W.stop H (hG _ hSH kp), hd D H acc hD hacc p hSH kp⟩
/-- a comprehension that changes nothing and keeps all: the list ys comes -/
theorem wlcP {J : It} {G : Hp → Prop} {xs ys : List V} {g : TG} {te : TE} {vs : List Nat} {σ : L2.St} {H0 : Hp} {Qd : Addr → Hp → Prop} (W : Wk J G xs) (hl : ys.length = xs.length) (hz : xs.length ≤ 100000) (hG : ∀ H', Kp F0 H0 H' → G H')
    (hs : ∀ (i : Nat) x y H' (R : V → Hp → Prop), xs[i]? = some x → ys[i]? = some y → Kp F0 H0 H' → (∀ H4, Kp F0 H' H4 → R y H4) → g x (wipe σ vs) H' fun σ2 H2 => wipe σ2 vs = wipe σ vs ∧ te σ2 H2 R)
    (hd : ∀ D H', H0 D = none → Kp F0 H0 H' → H' D = some (.lst ys) → Qd D H') :
    ∀ D, H0 D = none → ∃ W : Nat → Nat → Hp → Prop, (∃ m, W 0 m (upd H0 D (.lst []))) ∧ ∀ i m H, W i m H →
      (J.stop i H ∧ Qd D H) ∨ (J.go i H ∧ ∃ Nx : Hp → Prop, (∀ H', Nx H' → ∃ m', m' < m ∧ W (i + 1) m' H') ∧ ∀ x H', J.yld i H x H' → g x (wipe σ vs) H' fun σ2 H2 => wipe σ2 vs = wipe σ vs ∧ tYes σ2 H2 fun b H3 =>
        if b = true then te σ2 H3 fun y H4 => ∃ acc, H4 D = some (.lst acc) ∧ acc.length < sizeLine ∧ Nx (upd H4 D (.lst (acc ++ [y]))) else Nx H3) := by
  refine wlc W F0 (fun _ => True) (fun i acc => acc = ys.take i) (fun b z => z.elim) hz (fun H' _ k => hG H' k) rfl trivial (fun _ _ _ _ _ _ => trivial) (fun i x acc H' R R0 e p _ kp h1 _ => ?_) (fun D H' acc hD hacc p _ kp => hd D H' hD kp (by rw [hacc, p, ← hl, List.take_length]))
  have hi : i < ys.length := by rw [hl]; exact (List.getElem?_eq_some_iff.mp e).1
  refine hs i x ys[i] H' R e (by simp [hi]) kp fun H4 k4 => h1 _ _ k4 trivial ?_
  rw [p, List.take_succ, List.getElem?_eq_getElem hi]; rfl

section
variable {K : PySem.W.Frag} {σ : L2.St} {H : Hp} {Q : VK} {D : Ends} {ta tb tc te : TE} {t u : TS} {tt tt' : TT} {x y z v : V} {i : Nat} {g : TG} {a p : Addr} {wi : TI} {ts : TA} {R : It → Hp → Prop}
theorem x_for (h : wi σ H fun J H1 => ∃ W : Nat → Nat → L2.St → Hp → Prop, (∃ m, W 0 m σ H1) ∧ ∀ i m σ H, W i m σ H →
    (J.stop i H ∧ D.nx σ H) ∨ (J.go i H ∧ ∃ N : L2.St → Hp → Prop, (∀ σ' H', N σ' H' → ∃ m', m' < m ∧ W (i + 1) m' σ' H') ∧ ∀ x H', J.yld i H x H' → g x σ H' fun σ2 H2 => t { D with nx := N, ct := N, bk := D.nx } σ2 H2)) : tFor wi g t D σ H := h
theorem x_lc {vs : List Nat} (h : wi σ H fun J H1 => ∀ D, H1 D = none → ∃ W : Nat → Nat → Hp → Prop, (∃ m, W 0 m (upd H1 D (.lst []))) ∧ ∀ i m H, W i m H →
    (J.stop i H ∧ Q (.ref D) H) ∨ (J.go i H ∧ ∃ Nx : Hp → Prop, (∀ H', Nx H' → ∃ m', m' < m ∧ W (i + 1) m' H') ∧ ∀ x H', J.yld i H x H' → g x (wipe σ vs) H' fun σ2 H2 => wipe σ2 vs = wipe σ vs ∧ tt σ2 H2 fun b H3 =>
      if b = true then te σ2 H3 fun y H4 => ∃ acc, H4 D = some (.lst acc) ∧ acc.length < sizeLine ∧ Nx (upd H4 D (.lst (acc ++ [y]))) else Nx H3)) : tLc wi g tt te vs σ H Q := h
theorem x_rng1 (h : ts σ H fun vs H1 => ∃ j : Int, vs = [.int j] ∧ -(2 ^ 62) ≤ j ∧ j < 2 ^ 62 ∧ R (Itr 0 j.toNat) H1) : iRng1 ts σ H R := h
theorem x_rg1 {S : Int → Prop} {n : Int} (h1 : -(2 ^ 62) ≤ n) (h2 : n < 2 ^ 62) (h : S n) : ∃ j : Int, [V.int n] = [.int j] ∧ -(2 ^ 62) ≤ j ∧ j < 2 ^ 62 ∧ S j := ⟨n, rfl, h1, h2, h⟩
theorem x_rng2 (h : ts σ H fun vs H1 => ∃ i j : Int, vs = [.int i, .int j] ∧ (-(2 ^ 62) ≤ i ∧ i < 2 ^ 62 ∧ -(2 ^ 62) ≤ j ∧ j < 2 ^ 62) ∧ R (Itr i (j - i).toNat) H1) : iRng2 ts σ H R := h
theorem x_rg2 {S : Int → Int → Prop} {m n : Int} (h1 : -(2 ^ 62) ≤ m ∧ m < 2 ^ 62 ∧ -(2 ^ 62) ≤ n ∧ n < 2 ^ 62) (h : S m n) : ∃ i j : Int, [V.int m, V.int n] = [.int i, .int j] ∧ (-(2 ^ 62) ≤ i ∧ i < 2 ^ 62 ∧ -(2 ^ 62) ≤ j ∧ j < 2 ^ 62) ∧ S i j := ⟨m, n, rfl, h1, h⟩
theorem x_iL (h : te σ H fun x H1 => ∃ a, x = .ref a ∧ (∃ xs, SqL K H1 a xs) ∧ R (Itl K a) H1) : iList K te σ H R := h
theorem x_iL1 {xs : List V} {S : Addr → Prop} (h : SqL K H a xs) (q : S a) : ∃ b, V.ref a = .ref b ∧ (∃ xs, SqL K H b xs) ∧ S b := ⟨a, rfl, ⟨xs, h⟩, q⟩
theorem x_iT (h : te σ H fun x H1 => ∃ a, x = .ref a ∧ (∃ xs, SqT K H1 a xs) ∧ R (Itt K a) H1) : iTup K te σ H R := h
theorem x_iT1 {xs : List V} {S : Addr → Prop} (h : SqT K H a xs) (q : S a) : ∃ b, V.ref a = .ref b ∧ (∃ xs, SqT K H b xs) ∧ S b := ⟨a, rfl, ⟨xs, h⟩, q⟩
theorem x_sum {ns : List Int} (h : SqL K H a (ns.map V.int)) (q : Q (.int ns.sum) H) : rSum K [.ref a] H Q := ⟨a, ns, rfl, h, q⟩
theorem x_max {ns : List Int} (h : SqL K H a (ns.map V.int)) (h0 : 0 < ns.length) (q : ∀ m, m ∈ ns → (∀ y, y ∈ ns → y ≤ m) → Q (.int m) H) : rMax K [.ref a] H Q := ⟨a, ns, rfl, h, h0, q⟩
theorem x_min {ns : List Int} (h : SqL K H a (ns.map V.int)) (h0 : 0 < ns.length) (q : ∀ m, m ∈ ns → (∀ y, y ∈ ns → m ≤ y) → Q (.int m) H) : rMin K [.ref a] H Q := ⟨a, ns, rfl, h, h0, q⟩
end
/-- abs, max, min of two -/
def rAbsQ : List V → Hp → VK → Prop := fun xs H Q => ∃ i, xs = [.int i] ∧ Q (.int (if i < 0 then -i else i)) H
theorem c_abs {X : Cx} : CallR X (.builtin "abs") rAbsQ := call_abs
theorem x_abs {H : Hp} {Q : VK} {i : Int} (q : Q (.int (if i < 0 then -i else i)) H) : rAbsQ [.int i] H Q := ⟨i, rfl, q⟩
def rMax2Q : List V → Hp → VK → Prop := fun xs H Q => ∃ i j, xs = [.int i, .int j] ∧ Q (.int (if j > i then j else i)) H
theorem c_max2 {X : Cx} (hc : X.calm = true) : CallR X (.builtin "max") rMax2Q := call_max2 hc
theorem x_max2 {H : Hp} {Q : VK} {i j : Int} (q : Q (.int (max i j)) H) : rMax2Q [.int i, .int j] H Q := ⟨i, j, rfl, by rw [show (if j > i then j else i) = max i j by split <;> omega]; exact q⟩
def rMin2Q : List V → Hp → VK → Prop := fun xs H Q => ∃ i j, xs = [.int i, .int j] ∧ Q (.int (if j < i then j else i)) H
theorem c_min2 {X : Cx} (hc : X.calm = true) : CallR X (.builtin "min") rMin2Q := call_min2 hc
theorem x_min2 {H : Hp} {Q : VK} {i j : Int} (q : Q (.int (min i j)) H) : rMin2Q [.int i, .int j] H Q := ⟨i, j, rfl, by rw [show (if j < i then j else i) = min i j by split <;> omega]; exact q⟩
/-- list(xs), tuple(xs) -/
def rLstQ (K : PySem.W.Frag) : List V → Hp → VK → Prop := fun xs H Q => ∃ p ys, xs = [.ref p] ∧ (SqL K H p ys ∨ SqT K H p ys) ∧ ∀ l, H l = none → Q (.ref l) (upd H l (.lst ys))
theorem c_list {X : Cx} : CallR X (.type "list") (rLstQ X.K) := call_list_of
theorem x_lstL {K : PySem.W.Frag} {H : Hp} {Q : VK} {p : Addr} {ys : List V} (h : SqL K H p ys) (q : ∀ l H1, H l = none → Kp F0 H H1 → H1 l = some (.lst ys) → Q (.ref l) H1) : rLstQ K [.ref p] H Q := ⟨p, ys, rfl, .inl h, fun l hl => q l _ hl (Kp.new hl) upd_same⟩
theorem x_lstT {K : PySem.W.Frag} {H : Hp} {Q : VK} {p : Addr} {ys : List V} (h : SqT K H p ys) (q : ∀ l H1, H l = none → Kp F0 H H1 → H1 l = some (.lst ys) → Q (.ref l) H1) : rLstQ K [.ref p] H Q := ⟨p, ys, rfl, .inr h, fun l hl => q l _ hl (Kp.new hl) upd_same⟩
def rTupQ (K : PySem.W.Frag) : List V → Hp → VK → Prop := fun xs H Q => ∃ p ys, xs = [.ref p] ∧ ((SqL K H p ys ∧ ∀ l, H l = none → Q (.ref l) (upd H l (.tup ys))) ∨ (SqT K H p ys ∧ Q (.ref p) H))
theorem c_tuple {X : Cx} : CallR X (.type "tuple") (rTupQ X.K) := call_tuple_of
theorem x_tupL {K : PySem.W.Frag} {H : Hp} {Q : VK} {p : Addr} {ys : List V} (h : SqL K H p ys) (q : ∀ l H1, H l = none → Kp F0 H H1 → H1 l = some (.tup ys) → Q (.ref l) H1) : rTupQ K [.ref p] H Q := ⟨p, ys, rfl, .inl ⟨h, fun l hl => q l _ hl (Kp.new hl) upd_same⟩⟩
theorem x_tupT {K : PySem.W.Frag} {H : Hp} {Q : VK} {p : Addr} {ys : List V} (h : SqT K H p ys) (q : Q (.ref p) H) : rTupQ K [.ref p] H Q := ⟨p, ys, rfl, .inr ⟨h, q⟩⟩
/-- isinstance of an int -/
theorem x_isi {K : PySem.W.Frag} {H : Hp} {Q : VK} {i : Int} {T : String} {b : Bool} (hk : PySem.W.kitOne K (.type "int") (.type T) = some b) (q : Q (.bl b) H) : rIsi K [.int i, .ty T] H Q := ⟨_, _, _, _, b, rfl, .ty T, .base (.int i), hk, q⟩
theorem x_isiI {K : PySem.W.Frag} {H : Hp} {Q : VK} {i : Int} (q : Q (.bl true) H) : rIsi K [.int i, .ty "int"] H Q := x_isi (kit_ty (by decide +kernel)) q
theorem x_isiB {K : PySem.W.Frag} {H : Hp} {Q : VK} {i : Int} (q : Q (.bl false) H) : rIsi K [.int i, .ty "bool"] H Q := x_isi (kit_ty (by decide +kernel)) q
/-- bytes of a slice: a new list -/
theorem x_sl {σ : L2.St} {H : Hp} {Q : VK} {te : TE} {tl th : TO} {r : V → Option Int → Option Int → Hp → VK → Prop} (h : te σ H fun x H1 => tl σ H1 fun l H2 => th σ H2 fun u H3 => r x l u H3 Q) : L2.tSl r te tl th σ H Q := h
theorem x_part {σ : L2.St} {H : Hp} {Q : Option Int → Hp → Prop} {te : TE} (h : te σ H fun x H1 => ∃ i, x = .int i ∧ Q (some i) H1) : tPart te σ H Q := h
theorem x_part1 {S : Int → Prop} {i : Int} (h : S i) : ∃ j, V.int i = .int j ∧ S j := ⟨i, rfl, h⟩
theorem x_nopart {σ : L2.St} {H : Hp} {Q : Option Int → Hp → Prop} (h : Q none H) : tNoPart σ H Q := h
theorem x_slL {K : PySem.W.Frag} {H : Hp} {Q : VK} {p : Addr} {xs : List V} {lo hi : Option Int} (h : SqL K H p xs) (q : ∀ l H1, H l = none → Kp F0 H H1 → H1 l = some (.lst (cutV xs lo hi)) → Q (.ref l) H1) : rSlL K (.ref p) lo hi H Q := ⟨p, xs, rfl, h, fun l hl => q l _ hl (Kp.new hl) upd_same⟩
theorem x_slT {K : PySem.W.Frag} {H : Hp} {Q : VK} {p : Addr} {xs : List V} {lo hi : Option Int} (h : SqT K H p xs) (q : ∀ l H1, Kp F0 H H1 → SqT K H1 l (cutV xs lo hi) → Q (.ref l) H1) : rSlA K (.ref p) lo hi H Q :=
  ⟨p, xs, rfl, h, fun e => q p H (Kp.refl _) (by rw [show cutV xs lo hi = xs by unfold cutV; rw [e.1, e.2]; simp]; exact h), fun _ l hl => q l _ (Kp.new hl) (SqT.of upd_same)⟩
theorem x_catT {K : PySem.W.Frag} {H : Hp} {Q : VK} {a b : Addr} {xs ys : List V} (ha : SqT K H a xs) (hb : SqT K H b ys) (hz : xs.length + ys.length ≤ 100000) (q : ∀ l H1, Kp F0 H H1 → SqT K H1 l (xs ++ ys) → Q (.ref l) H1) : rCatA K (.ref a) (.ref b) H Q :=
  ⟨a, b, xs, ys, rfl, rfl, ha, hb, Nat.le_trans hz (by decide), fun e => q b H (Kp.refl _) (by rw [e]; exact hb), fun _ e => q a H (Kp.refl _) (by rw [e, List.append_nil]; exact ha), fun _ _ l hl => q l _ (Kp.new hl) (SqT.of upd_same)⟩
theorem x_catL {H : Hp} {Q : VK} {a b : Addr} {xs ys : List V} (ha : H a = some (.lst xs)) (hb : H b = some (.lst ys)) (hz : xs.length + ys.length ≤ sizeLine) (q : ∀ l H1, H l = none → Kp F0 H H1 → H1 l = some (.lst (xs ++ ys)) → Q (.ref l) H1) : rCat (.ref a) (.ref b) H Q :=
  ⟨a, b, xs, ys, rfl, rfl, ha, hb, hz, fun l hl => q l _ hl (Kp.new hl) upd_same⟩
/-- data compared -/
theorem x_eqD {K : PySem.W.Frag} {H : Hp} {Q : VK} {x y : V} {d e : PyData} (hx : Dp K H x d) (hy : Dp K H y e) (s1 : SeqAt.shaped d = true) (s2 : SeqAt.shaped e = true) (q : Q (.bl (PyData.eqv d e)) H) : rEqD K x y H Q := ⟨d, e, hx, hy, s1, s2, q⟩
theorem x_neD {K : PySem.W.Frag} {H : Hp} {Q : VK} {x y : V} {d e : PyData} (hx : Dp K H x d) (hy : Dp K H y e) (s1 : SeqAt.shaped d = true) (s2 : SeqAt.shaped e = true) (q : Q (.bl (!PyData.eqv d e)) H) : rNeD K x y H Q := ⟨d, e, hx, hy, s1, s2, q⟩

/-! ### data of ints and texts: equal as data, equal -/
mutual
def nb : PyData → Bool
  | .none => true
  | .bool _ => false
  | .int _ => true
  | .str _ => true
  | .list xs => nbAll xs
  | .tuple xs => nbAll xs
  | .dict _ => false
def nbAll : List PyData → Bool
  | [] => true
  | x :: xs => nb x && nbAll xs
end
mutual
theorem eqv_nb : ∀ d e : PyData, nb d = true → nb e = true → (PyData.eqv d e = true ↔ d = e)
  | .none, e, _, h => by cases e <;> first | (simp [nb] at h; done) | simp [PyData.eqv]
  | .int i, e, _, h => by cases e <;> first | (simp [nb] at h; done) | simp [PyData.eqv]
  | .str i, e, _, h => by cases e <;> first | (simp [nb] at h; done) | simp [PyData.eqv]
  | .list xs, e, g, h => by
    cases e with
    | list ys => rw [show PyData.eqv (.list xs) (.list ys) = PyData.eqvAll xs ys by simp [PyData.eqv], eqvAll_nb xs ys (by simpa [nb] using g) (by simpa [nb] using h)]; simp
    | bool b => simp [nb] at h
    | dict b => simp [nb] at h
    | _ => simp [PyData.eqv]
  | .tuple xs, e, g, h => by
    cases e with
    | tuple ys => rw [show PyData.eqv (.tuple xs) (.tuple ys) = PyData.eqvAll xs ys by simp [PyData.eqv], eqvAll_nb xs ys (by simpa [nb] using g) (by simpa [nb] using h)]; simp
    | bool b => simp [nb] at h
    | dict b => simp [nb] at h
    | _ => simp [PyData.eqv]
  | .bool _, _, g, _ => by simp [nb] at g
  | .dict _, _, g, _ => by simp [nb] at g
theorem eqvAll_nb : ∀ xs ys : List PyData, nbAll xs = true → nbAll ys = true → (PyData.eqvAll xs ys = true ↔ xs = ys)
  | [], [], _, _ => by simp [PyData.eqvAll]
  | [], _ :: _, _, _ => by simp [PyData.eqvAll]
  | _ :: _, [], _, _ => by simp [PyData.eqvAll]
  | x :: xs, y :: ys, g, h => by
    simp only [nbAll, Bool.and_eq_true] at g h
    simp only [PyData.eqvAll, Bool.and_eq_true, List.cons.injEq]
    rw [eqv_nb x y g.1 h.1, eqvAll_nb xs ys g.2 h.2]
end
theorem eqv_dec {d e : PyData} (h1 : nb d = true) (h2 : nb e = true) {p : Prop} [Decidable p] (h : d = e ↔ p) : PyData.eqv d e = decide p := by
  rw [Bool.eq_iff_iff, eqv_nb d e h1 h2, h, decide_eq_true_iff]
/-- data whose rows are shaped -/
def Sh (n : Nat) (d : PyData) : Prop := d.canLay0 = true ∧ d.depth ≤ n ∧ nb d = true
theorem Sh.shaped {n : Nat} {d : PyData} (h : Sh n d) (hn : n ≤ 64 := by decide) : SeqAt.shaped d = true := by
  unfold SeqAt.shaped
  rw [h.1, decide_eq_true (Nat.le_trans h.2.1 hn)]; rfl
theorem Sh.int (i : Int) : Sh 0 (.int i) := ⟨by simp [PyData.canLay0], by simp [PyData.depth], by simp [nb]⟩
theorem sh_all {n : Nat} : ∀ {ds : List PyData}, (∀ d ∈ ds, Sh n d) → PyData.canLayAll0 ds = true ∧ PyData.depthAll ds ≤ n ∧ nbAll ds = true
  | [], _ => ⟨by simp [PyData.canLayAll0], by simp [PyData.depthAll], by simp [nbAll]⟩
  | d :: ds, h => by
    have h1 := h d (by simp)
    have h2 := sh_all (ds := ds) fun x hx => h x (List.mem_cons_of_mem _ hx)
    exact ⟨by simp [PyData.canLayAll0, h1.1, h2.1], by simp only [PyData.depthAll]; have := h1.2.1; have := h2.2.1; omega, by simp [nbAll, h1.2.2, h2.2.2]⟩
theorem Sh.list {n : Nat} {ds : List PyData} (h : ∀ d ∈ ds, Sh n d) : Sh (n + 1) (.list ds) := by
  have q := sh_all h
  exact ⟨by simp [PyData.canLay0, q.1], by simp only [PyData.depth]; have := q.2.1; omega, by simp [nb, q.2.2]⟩
theorem Sh.tuple {n : Nat} {ds : List PyData} (h : ∀ d ∈ ds, Sh n d) : Sh (n + 1) (.tuple ds) := by
  have q := sh_all h
  exact ⟨by simp [PyData.canLay0, q.1], by simp only [PyData.depth]; have := q.2.1; omega, by simp [nb, q.2.2]⟩
theorem sh_ints (ns : List Int) : ∀ d ∈ ns.map PyData.int, Sh 0 d := fun d h => by
  obtain ⟨i, _, rfl⟩ := List.mem_map.mp h
  exact Sh.int i
theorem map_int_inj : ∀ {ns ms : List Int}, ns.map PyData.int = ms.map PyData.int ↔ ns = ms
  | [], [] => by simp
  | [], _ :: _ => by simp
  | _ :: _, [] => by simp
  | n :: ns, m :: ms => by simp [map_int_inj (ns := ns) (ms := ms)]
theorem dp_ints {K : PySem.W.Frag} {H : Hp} : ∀ ns : List Int, DpAll K H (ns.map V.int) (ns.map PyData.int)
  | [] => .nil
  | n :: ns => .cons (.int n) (dp_ints ns)
theorem x_eqLI {K : PySem.W.Frag} {H : Hp} {Q : VK} {a b : Addr} {ns ms : List Int} (ha : SqL K H a (ns.map V.int)) (hb : SqL K H b (ms.map V.int)) (q : Q (.bl (decide (ns = ms))) H) : rEqD K (.ref a) (.ref b) H Q :=
  x_eqD (.lst ha (dp_ints _)) (.lst hb (dp_ints _)) (Sh.list (sh_ints _)).shaped (Sh.list (sh_ints _)).shaped (by rw [eqv_dec (p := ns = ms) (Sh.list (sh_ints _)).2.2 (Sh.list (sh_ints _)).2.2 (by simp [map_int_inj])]; exact q)
theorem x_neLI {K : PySem.W.Frag} {H : Hp} {Q : VK} {a b : Addr} {ns ms : List Int} (ha : SqL K H a (ns.map V.int)) (hb : SqL K H b (ms.map V.int)) (q : Q (.bl (!decide (ns = ms))) H) : rNeD K (.ref a) (.ref b) H Q :=
  x_neD (.lst ha (dp_ints _)) (.lst hb (dp_ints _)) (Sh.list (sh_ints _)).shaped (Sh.list (sh_ints _)).shaped (by rw [eqv_dec (p := ns = ms) (Sh.list (sh_ints _)).2.2 (Sh.list (sh_ints _)).2.2 (by simp [map_int_inj])]; exact q)
theorem x_eqTI {K : PySem.W.Frag} {H : Hp} {Q : VK} {a b : Addr} {ns ms : List Int} (ha : SqT K H a (ns.map V.int)) (hb : SqT K H b (ms.map V.int)) (q : Q (.bl (decide (ns = ms))) H) : rEqD K (.ref a) (.ref b) H Q :=
  x_eqD (.tup ha (dp_ints _)) (.tup hb (dp_ints _)) (Sh.tuple (sh_ints _)).shaped (Sh.tuple (sh_ints _)).shaped (by rw [eqv_dec (p := ns = ms) (Sh.tuple (sh_ints _)).2.2 (Sh.tuple (sh_ints _)).2.2 (by simp [map_int_inj])]; exact q)
theorem x_neTI {K : PySem.W.Frag} {H : Hp} {Q : VK} {a b : Addr} {ns ms : List Int} (ha : SqT K H a (ns.map V.int)) (hb : SqT K H b (ms.map V.int)) (q : Q (.bl (!decide (ns = ms))) H) : rNeD K (.ref a) (.ref b) H Q :=
  x_neD (.tup ha (dp_ints _)) (.tup hb (dp_ints _)) (Sh.tuple (sh_ints _)).shaped (Sh.tuple (sh_ints _)).shaped (by rw [eqv_dec (p := ns = ms) (Sh.tuple (sh_ints _)).2.2 (Sh.tuple (sh_ints _)).2.2 (by simp [map_int_inj])]; exact q)

/-! ### rules with the written part named -/
section
variable {X : Cx} {K : PySem.W.Frag} {e o : Expr} {es : List Expr} {ta to te : TE} {f name : Str} {pos apos cpos : Pos} {t : TA} {T id : String} {r : V → List V → Hp → VK → Prop} {tg l : Expr} {gs : TGs}
theorem pe_fldK (hK : X.K = K) (he : PE X e ta) (hb : attributeBase e f X.env (eval e X.env) = eval e X.env := by rfl) : PE X (.Attribute e f pos) (tFld K ta f) := by subst hK; exact pe_fld he hb
theorem pe_kBM (hK : X.K = K) (h : PE X e (tBM X.K T r to t)) : PE X e (tBM K T r to t) := by subst hK; exact h
theorem pe_kBM0 (hK : X.K = K) (h : PE X e (tBM0 X.K T r to)) : PE X e (tBM0 K T r to) := by subst hK; exact h
theorem pg_kT {k : Nat} (hK : X.K = K) (h : PG X tg (gTup X.K k gs)) : PG X tg (gTup K k gs) := by subst hK; exact h
theorem pi_listK (hK : X.K = K) (h : PE X l te) : PI X tg l (iList K te) := by subst hK; exact pi_list h
theorem pi_tupK (hK : X.K = K) (h : PE X l te) : PI X tg l (iTup K te) := by subst hK; exact pi_tup h
end

/-- what every law promises: True -/
def sp_law (K : PySem.W.Frag) : Sp := fun vs H Q _ => ∃ (a : Addr) (ns : List Int), vs = [.ref a] ∧ Sc K H a ns ∧ ns.length ≤ 63 ∧ ∀ H', Q (.bl true) H'
theorem tup_K {K : PySem.W.Frag} {H : Hp} {a : Addr} {dd : Option Addr} {us : List Value} {n : Nat} {sl : Array (Option Value)} {xs : List V} (h : K.lookup a = some ⟨.type "tuple", dd, .seq us.toArray n, sl⟩) (r : Vals xs us) (z : us.length ≤ 1000 := by exact Nat.le_of_ble_eq_true rfl) : SqT K H a xs :=
  .inr ⟨_, us.toArray, n, h, rfl, rfl, Nat.le_trans (by simpa using z) (by decide : 1000 ≤ sizeLine), r⟩

/-! ### methods of lists, targets -/
section
variable {K : PySem.W.Frag} {σ : L2.St} {H : Hp} {Q : VK} {to te : TE} {ts : TA} {T : String} {r : V → List V → Hp → VK → Prop} {l b p a : Addr} {xs zs : List V} {y v : V}
theorem x_bm (h : to σ H fun x H1 => tyV K T x H1 ∧ ts σ H1 fun xs H2 => r x xs H2 Q) : tBM K T r to ts σ H Q := h
theorem x_bm0 (h : to σ H fun x H1 => tyV K T x H1 ∧ r x [] H1 Q) : tBM0 K T r to σ H Q := h
theorem x_ty {B : Prop} (h : H p = some (.lst xs)) (q : B) : tyV K "list" (.ref p) H ∧ B := ⟨.inl ⟨rfl, _, SqL.of h⟩, q⟩
theorem x_app (h : H l = some (.lst xs)) (hz : xs.length < 16777216) (q : ∀ H1, H1 l = some (.lst (xs ++ [y])) → Kp (F1 l) H H1 → Q .non H1) : rAppend (.ref l) [y] H Q :=
  ⟨l, xs, y, rfl, rfl, h, Nat.lt_of_lt_of_le hz (by decide), q _ upd_same (Kp.put h id)⟩
theorem x_ext (h : H l = some (.lst xs)) (hb : H b = some (.lst zs)) (hz : xs.length + zs.length ≤ 16777216) (q : ∀ H1, H1 l = some (.lst (xs ++ zs)) → Kp (F1 l) H H1 → Q .non H1) : rExtend (.ref l) [.ref b] H Q :=
  ⟨l, b, xs, zs, rfl, rfl, h, hb, Nat.le_trans hz (by decide), q _ upd_same (Kp.put h id)⟩
theorem x_all {bs : List Bool} (h : SqL K H a (bs.map V.bl)) (q : Q (.bl (bs.all id)) H) : rAll K [.ref a] H Q := ⟨a, bs, rfl, h, q⟩
theorem x_any {bs : List Bool} (h : SqL K H a (bs.map V.bl)) (q : Q (.bl (bs.any id)) H) : rAny K [.ref a] H Q := ⟨a, bs, rfl, h, q⟩
theorem x_gt {n : Nat} {g : TGs} {R : L2.St → Hp → Prop} (h : SqT K H a xs) (hn : xs.length = n) (q : g xs σ H R) : gTup K n g (.ref a) σ H R := ⟨a, xs, rfl, h, hn, q⟩
theorem x_gc {t : TG} {u : TGs} {R : L2.St → Hp → Prop} (q : t v σ H fun σ' H' => u xs σ' H' R) : gCons t u (v :: xs) σ H R := ⟨v, xs, rfl, q⟩
theorem x_g0 {R : L2.St → Hp → Prop} (q : R σ H) : gNil [] σ H R := ⟨rfl, q⟩
theorem x_isiT {S : String} {b : Bool} (h : SqT K H a xs) (ht : TyX K H (.ref a) (.type "tuple")) (hk : PySem.W.kitOne K (.type "tuple") (.type S) = some b) (q : Q (.bl b) H) : rIsi K [.ref a, .ty S] H Q := ⟨_, _, _, _, b, rfl, .ty S, ht, hk, q⟩
end
/-- n & (2 ^ k - 1) -/
def rAndM : R2 := fun x y H Q => ∃ (i : Int) (k : Nat), x = .int i ∧ y = .int (2 ^ k - 1) ∧ Q (.int (i % 2 ^ k)) H
theorem o_and {X : Cx} : OpR X (binaryOp .BitAnd) rAndM := op_andM
theorem x_and255 {H : Hp} {Q : VK} {i : Int} (q : Q (.int (i % 256)) H) : rAndM (.int i) (.int 255) H Q := ⟨i, 8, rfl, rfl, q⟩
/-! ### slices -/
theorem cut_to {a : List Int} {j : Int} (h0 : 0 ≤ j) (h1 : j ≤ a.length) : cutV (a.map V.int) none (some j) = (a.take j.toNat).map V.int := by
  obtain ⟨k, rfl⟩ := Int.eq_ofNat_of_zero_le h0
  unfold cutV
  rw [HT.sIx_none, HT.sIx_nat]
  simp only [List.drop_zero, Nat.sub_zero, List.length_map, List.map_take, Int.toNat_natCast]
  congr 1
  omega
theorem cut_from {a : List Int} {j : Int} (h0 : 0 ≤ j) (h1 : j ≤ a.length) : cutV (a.map V.int) (some j) none = (a.drop j.toNat).map V.int := by
  obtain ⟨k, rfl⟩ := Int.eq_ofNat_of_zero_le h0
  unfold cutV
  rw [HT.sIx_none, HT.sIx_nat]
  simp only [List.length_map, List.map_drop, Int.toNat_natCast]
  rw [show min k a.length = k by omega, List.take_of_length_le (by simp)]
theorem cut_mid {a : List Int} {i j : Int} (h0 : 0 ≤ i) (h1 : i ≤ j) : cutV (a.map V.int) (some i) (some j) = ((a.drop i.toNat).take (j - i).toNat).map V.int := by
  obtain ⟨m, rfl⟩ := Int.eq_ofNat_of_zero_le h0
  obtain ⟨n, rfl⟩ := Int.eq_ofNat_of_zero_le (Int.le_trans h0 h1)
  unfold cutV
  rw [HT.sIx_nat, HT.sIx_nat]
  simp only [List.length_map, List.map_take, List.map_drop, Int.toNat_natCast]
  have e : ((n : Int) - (m : Int)).toNat = n - m := by omega
  rw [e]
  by_cases q : m ≤ a.length
  · rw [show min m a.length = m by omega]
    by_cases q2 : n ≤ a.length
    · rw [show min n a.length = n by omega]
    · rw [show min n a.length = a.length by omega, List.take_of_length_le (by simp), List.take_of_length_le (by simp; omega)]
  · rw [List.drop_eq_nil_of_le (by simp; omega), List.drop_eq_nil_of_le (by simp; omega)]; simp

/-! ### exceptions of own classes, made without arguments -/
section
variable {X : Cx} {C : Addr} {bmB : List Value} {B newId initId : String} {x : Str} {p pos : Pos}
theorem pmk_own0 (F : ExcBaseFacts B newId initId bmB) (q : PySem.W.excIn X.K C bmB newId = true) (gC : X.mg x = some (.ref C)) (kC : PySem.W.keepIn X.K (.ref C) = true) (r : Raises X (.ref C)) (hg : Gl X x)
    (hdb : (x == ("__debug__" : Str)) = false := by decide) : PMk X (.Call (.Name x p) [] [] pos) (fun _ H Q => Q (.ref C) none H) := fun pins s σ H Q I h => by
  refine wpAny_Call_Name_kw (ld_glob I hg gC (PySem.W.callWith_K0 I.kIn kC ?_) hdb)
  obtain ⟨_, _, _, _, _, _, _, _, _, _, _, _, _, _, _, _, _, hC, hN, hi, T⟩ := exc_obj I.kIn q
  exact wpAny_call_exc_subT F T hC hN hi (fun _ _ hm => mk_of I hm r h (I.hok.gone hm.new)) (Nat.zero_le _)
end
/-- what the top tells of an own exception class -/
structure ExT (K : PySem.W.Frag) (mg : Str → Option Value) (x : Str) (C : Addr) : Prop where
  g : mg x = some (.ref C)
  x : PySem.W.excIn K C [.type "ValueError", .type "Exception", .type "BaseException", .type "object"] "ValueError.__new__" = true
  k : PySem.W.keepIn K (.ref C) = true
  b : PySem.W.subIn K (.ref C) (.type "BaseException") = some true
  t : PySem.W.typeIn K (.ref C) = some (.type "type")
  i : PySem.W.isClsIn K C = true
  s : PySem.W.subIn K (.ref C) (.ref C) = some true
section
variable {X : Cx} {C : Addr} {x : Str} {p pos : Pos}
theorem pmk_X (T : ExT X.K X.mg x C) (hg : Gl X x := by rfl) (hdb : (x == ("__debug__" : Str)) = false := by decide) : PMk X (.Call (.Name x p) [] [] pos) (fun _ H Q => Q (.ref C) none H) :=
  pmk_own0 PySem.F.excBase_ValueError T.x T.g T.k (raises_own T.b T.t) hg hdb
/-- what an own raising def lets out goes to its own wish -/
theorem passE {E : XK} {E1 : Value → Shared → Prop} (hs : X.stack = X.env :: X.outer) (hf : X.env.frame = some X.env.locals) (hex : X.ex = [])
    (hx : X.xe = fun e s' => wpAny (model X.prog X.w) X.A (leaving X.env e) (fun _ s'' => L2.CX X.prog X.w X.outer X.H_0 X.s_0 E e s'') E1 s') : ∀ σ, PassesAt (L2.CX X.prog X.w) X σ ((fun _ => E) σ) :=
  fun σ pins H s e s' I c => passes_call (takes_of hs hf hex hx) (fun _ _ _ _ z => z) pins σ H s e s' I c
end

/-! ### fields, methods, dicts: their steps -/
section
variable {K : PySem.W.Frag} {σ : L2.St} {H : Hp} {Q : VK} {D : Ends} {ta tv td ty tx te : TE} {t u : TS} {x y z v : V} {f m : Str} {p a C dx : Addr} {fs fs' : List (Str × V)} {ts : TA} {sp : Sp} {E : L2.St → XK}
def rFldQ (K : PySem.W.Frag) (f : Str) (x : V) (H : Hp) (Q : VK) : Prop := ∃ a C dx fs v, x = .ref a ∧ H a = some (.ins C dx fs) ∧ Cls K C ∧ NoAttr K C f ∧ fs.lookup f = some v ∧ Q v H
theorem x_tfld (h : ta σ H fun x H1 => rFldQ K f x H1 Q) : tFld K ta f σ H Q := h
theorem x_fld (h : H p = some (.ins C dx fs)) (cl : Cls K C) (na : NoAttr K C f) (l : fs.lookup f = some v) (q : Q v H) : rFldQ K f (.ref p) H Q := ⟨p, C, dx, fs, v, rfl, h, cl, na, l, q⟩
def rSFld (K : PySem.W.Frag) (f : Str) (x y : V) (H : Hp) (R : Hp → Prop) : Prop := ∃ a C dx fs, x = .ref a ∧ H a = some (.ins C dx fs) ∧ Cls K C ∧ NoAttr K C f ∧ fs.length < 1000 ∧ R (upd H a (.ins C dx (putF f y fs)))
theorem x_tsf (h : tv σ H fun y H1 => ta σ H1 fun x H2 => rSFld K f x y H2 (D.nx σ)) : sFld K ta tv f D σ H := h
theorem x_sfl {R : Hp → Prop} (h : H p = some (.ins C dx fs)) (cl : Cls K C) (na : NoAttr K C f) (ln : fs.length < 1000) (e : putF f y fs = fs') (q : ∀ H1, H1 p = some (.ins C dx fs') → Kp (F1 p) H H1 → R H1) : rSFld K f (.ref p) y H R :=
  ⟨p, C, dx, fs, rfl, h, cl, na, ln, q _ (by rw [e]; exact upd_same) (Kp.put h id)⟩
def rAugQ (K : PySem.W.Frag) (f : Str) (x : V) (H : Hp) (R : Addr → Addr → V → Prop) : Prop := ∃ a C dx fs v, x = .ref a ∧ H a = some (.ins C dx fs) ∧ Cls K C ∧ NoAttr K C f ∧ fs.lookup f = some v ∧ R a C v
def rAugP (f : Str) (a C : Addr) (z : V) (H : Hp) (R : Hp → Prop) : Prop := ∃ dx' fs', H a = some (.ins C dx' fs') ∧ fs'.length < 1000 ∧ R (upd H a (.ins C dx' (putF f z fs')))
theorem x_aug {rd : V → V → Hp → VK → Prop} (h : ta σ H fun x H1 => rAugQ K f x H1 fun a C v => tv σ H1 fun y H2 => rd v y H2 fun z H3 => rAugP f a C z H3 (D.nx σ)) : sFldAug K ta tv rd f D σ H := by
  exact h
theorem x_augI {R : Addr → Addr → V → Prop} (h : H p = some (.ins C dx fs)) (cl : Cls K C) (na : NoAttr K C f) (l : fs.lookup f = some v) (q : R p C v) : rAugQ K f (.ref p) H R := ⟨p, C, dx, fs, v, rfl, h, cl, na, l, q⟩
theorem x_augP {R : Hp → Prop} (h : H p = some (.ins C dx fs)) (ln : fs.length < 1000) (e : putF f y fs = fs') (q : ∀ H1, H1 p = some (.ins C dx fs') → Kp (F1 p) H H1 → R H1) : rAugP f p C y H R :=
  ⟨dx, fs, h, ln, q _ (by rw [e]; exact upd_same) (Kp.put h id)⟩
theorem x_radd {i j : Int} (q : Q (.int (i + j)) H) : rAdd (.int i) (.int j) H Q := ⟨i, j, rfl, rfl, q⟩
theorem x_rsub {i j : Int} (q : Q (.int (i - j)) H) : rSub (.int i) (.int j) H Q := ⟨i, j, rfl, rfl, q⟩
def rMethQ (C : Addr) (m : Str) (x : V) (H : Hp) (R : Addr → Prop) : Prop := ∃ a dx fs, x = .ref a ∧ H a = some (.ins C dx fs) ∧ fs.lookup m = none ∧ R a
theorem x_tmt (h : ta σ H fun x H1 => rMethQ C m x H1 fun a => ts σ H1 fun vs H2 => sp (.ref a :: vs) H2 Q (E σ)) : tMethS C m sp E ta ts σ H Q := h
theorem x_mt {R : Addr → Prop} (h : H p = some (.ins C dx fs)) (l : fs.lookup m = none) (q : R p) : rMethQ C m (.ref p) H R := ⟨p, dx, fs, rfl, h, l, q⟩
theorem x_mk (h : ts σ H fun vs H1 => ∀ x dx, H1 x = none → H1 dx = none → dx ≠ x → sp (.ref x :: vs) (upd (upd H1 dx (.own x)) x (.ins C dx [])) (fun v H2 => v = .non ∧ Q (.ref x) H2) (E σ)) : tMakeS C sp E ts σ H Q := h
/-- d[k], k in d, d.get(k, z), d[k] = v, d.pop(k) -/
def rDGet (x y : V) (H : Hp) (Q : VK) : Prop := ∃ a v, x = .ref a ∧ DGet H a y (some v) ∧ Q v H
theorem x_tdg (h : td σ H fun x H1 => ty σ H1 fun y H2 => rDGet x y H2 Q) : tDGet td ty σ H Q := h
theorem x_dgI {kvs : List (Key × V)} {n : Int} (h : Rd H a (.dK kvs)) (e : valV kvs (Sum.inl n) = some v) (q : Q v H) : rDGet (.ref a) (.int n) H Q := ⟨a, v, rfl, .inl ⟨kvs, .inl n, h, rfl, e.symm⟩, q⟩
theorem x_dgS {kvs : List (Key × V)} {n : Str} (h : Rd H a (.dK kvs)) (e : valV kvs (Sum.inr n) = some v) (q : Q v H) : rDGet (.ref a) (.str n) H Q := ⟨a, v, rfl, .inl ⟨kvs, .inr n, h, rfl, e.symm⟩, q⟩
def rDIn (x y : V) (H : Hp) (Q : VK) : Prop := ∃ a o, x = .ref a ∧ DGet H a y o ∧ Q (.bl o.isSome) H
theorem x_tdi (h : ty σ H fun y H1 => td σ H1 fun x H2 => rDIn x y H2 Q) : tDIn ty td σ H Q := h
theorem x_diI {kvs : List (Key × V)} {n : Int} (h : Rd H a (.dK kvs)) (q : Q (.bl (valV kvs (Sum.inl n)).isSome) H) : rDIn (.ref a) (.int n) H Q := ⟨a, _, rfl, .inl ⟨kvs, .inl n, h, rfl, rfl⟩, q⟩
def rDNin (x y : V) (H : Hp) (Q : VK) : Prop := ∃ a o, x = .ref a ∧ DGet H a y o ∧ Q (.bl (!o.isSome)) H
theorem x_tdn (h : ty σ H fun y H1 => td σ H1 fun x H2 => rDNin x y H2 Q) : tDNotIn ty td σ H Q := h
theorem x_dnI {kvs : List (Key × V)} {n : Int} (h : Rd H a (.dK kvs)) (q : Q (.bl (!(valV kvs (Sum.inl n)).isSome)) H) : rDNin (.ref a) (.int n) H Q := ⟨a, _, rfl, .inl ⟨kvs, .inl n, h, rfl, rfl⟩, q⟩
def rDGet2 (x : V) (H : Hp) (R : Addr → Prop) : Prop := ∃ a, x = .ref a ∧ IsD H a ∧ R a
def rDGet2b (a : Addr) (y z : V) (H : Hp) (Q : VK) : Prop := ∃ o, DGet H a y o ∧ Q (o.getD z) H
theorem x_tg2 (h : td σ H fun x H1 => rDGet2 x H1 fun a => ty σ H1 fun y H2 => tx σ H2 fun z H3 => rDGet2b a y z H3 Q) : tDGet2 td ty tx σ H Q := h
theorem x_g2a {kvs : List (Key × V)} {R : Addr → Prop} (h : Rd H a (.dK kvs)) (q : R a) : rDGet2 (.ref a) H R := ⟨a, rfl, .inl ⟨kvs, h⟩, q⟩
theorem x_g2b {kvs : List (Key × V)} {n : Int} (h : Rd H a (.dK kvs)) (q : Q ((valV kvs (Sum.inl n)).getD z) H) : rDGet2b a (.int n) z H Q := ⟨_, .inl ⟨kvs, .inl n, h, rfl, rfl⟩, q⟩
def rDPut (x y v : V) (H : Hp) (R : Hp → Prop) : Prop := ∃ a H4, x = .ref a ∧ DPut H a y v H4 ∧ R H4
theorem x_tdp (h : tv σ H fun v H1 => td σ H1 fun x H2 => ty σ H2 fun y H3 => rDPut x y v H3 (D.nx σ)) : sDPut td ty tv D σ H := h
theorem x_dpI {kvs : List (Key × V)} {n : Int} {R : Hp → Prop} (h : H a = some (.dK kvs)) (z : kvs.length < 16777216) (q : ∀ H1, H1 a = some (.dK (putK kvs (Sum.inl n) v)) → Kp (F1 a) H H1 → R H1) : rDPut (.ref a) (.int n) v H R :=
  ⟨a, _, rfl, .inl ⟨kvs, .inl n, h, rfl, Nat.lt_of_lt_of_le z (by decide), rfl⟩, q _ upd_same (Kp.put h id)⟩
theorem x_dpS {kvs kvs' : List (Key × V)} {n : Str} {R : Hp → Prop} (h : H a = some (.dK kvs)) (e : putK kvs (Sum.inr n) v = kvs') (z : kvs.length < 16777216) (q : ∀ H1, H1 a = some (.dK kvs') → Kp (F1 a) H H1 → R H1) : rDPut (.ref a) (.str n) v H R :=
  ⟨a, _, rfl, .inl ⟨kvs, .inr n, h, rfl, Nat.lt_of_lt_of_le z (by decide), rfl⟩, q _ (by rw [e]; exact upd_same) (Kp.put h id)⟩
theorem x_dnew (h : ∀ p H1, H p = none → Kp F0 H H1 → H1 p = some (.dK []) → Q (.ref p) H1) : tDNewK σ H Q := fun p hp => h p _ hp (Kp.new hp) upd_same
theorem x_lenD {kvs : List (Key × V)} (h : H a = some (.dK kvs)) (q : Q (.int kvs.length) H) : (fun (xs : List V) (H : Hp) (Q : VK) => ∃ a kvs, xs = [V.ref a] ∧ H a = some (.dK kvs) ∧ Q (.int kvs.length) H) [.ref a] H Q := ⟨a, kvs, rfl, h, q⟩
/-- x is None -/
def rIsNQ : R2 := fun x y H Q => y = .non ∧ Q (.bl (decide (x = .non))) H
theorem o_isN {X : Cx} : OpR X (compareOp .Is) rIsNQ := op_isN
theorem x_isNi {i : Int} (q : Q (.bl false) H) : rIsNQ (.int i) .non H Q := ⟨rfl, q⟩
theorem x_isNr (q : Q (.bl false) H) : rIsNQ (.ref a) .non H Q := ⟨rfl, q⟩
theorem x_isNn (q : Q (.bl true) H) : rIsNQ .non .non H Q := ⟨rfl, q⟩
def rNotNQ : R2 := fun x y H Q => y = .non ∧ Q (.bl (!decide (x = .non))) H
theorem o_notN {X : Cx} : OpR X (compareOp .IsNot) rNotNQ := op_notN
theorem x_notNi {i : Int} (q : Q (.bl true) H) : rNotNQ (.int i) .non H Q := ⟨rfl, q⟩
theorem x_notNr (q : Q (.bl true) H) : rNotNQ (.ref a) .non H Q := ⟨rfl, q⟩
theorem x_notNn (q : Q (.bl false) H) : rNotNQ .non .non H Q := ⟨rfl, q⟩
end
/-- a repeated list -/
theorem x_rep {H : Hp} {Q : VK} {l : Addr} {k : Int} {v : V} (h : H l = some (.lst [v])) (h0 : 0 ≤ k) (h1 : k ≤ 1000000) (q : ∀ p H1, H p = none → Kp F0 H H1 → H1 p = some (.lst (List.replicate k.toNat v)) → Q (.ref p) H1) : rRep (.ref l) (.int k) H Q :=
  ⟨l, k, [v], rfl, rfl, h, by omega, by omega, by rw [sizeLine_eq]; simp only [List.length_singleton]; omega, fun p hp => q p _ hp (Kp.new hp) (by rw [upd_same]; congr 2; generalize k.toNat = n; induction n with | zero => rfl | succ n ih => rw [List.replicate_succ, List.flatten_cons, ih, List.replicate_succ]; rfl)⟩
/-- reversed(xs) -/
theorem Wk.rev {K : PySem.W.Frag} {a : Addr} {xs : List V} : Wk (Itv K a xs.length) (fun H => SqL K H a xs) xs.reverse where
  go := fun i H h g => by
    rw [List.length_reverse] at h
    exact ⟨h, xs, xs[xs.length - 1 - i], g, by rw [List.getElem?_eq_getElem (by omega)]⟩
  yld := fun i H x H' h g y => by
    rw [List.length_reverse] at h
    refine ⟨y.1.symm, ?_⟩
    rw [List.getElem?_reverse h]
    exact y.2 xs g
  stop := fun H _ => by show xs.length ≤ _; rw [List.length_reverse]; exact Nat.le_refl _
section
variable {K : PySem.W.Frag} {σ : L2.St} {H : Hp} {ts : TA} {R : It → Hp → Prop} {a : Addr}
def rRevQ (K : PySem.W.Frag) (vs : List V) (H : Hp) (R : It → Hp → Prop) : Prop := ∃ (a : Addr) (xs : List V), vs = [.ref a] ∧ SqL K H a xs ∧ R (Itv K a xs.length) H
theorem x_irev (h : ts σ H fun vs H1 => rRevQ K vs H1 R) : iRev K ts σ H R := h
theorem x_rev {xs : List V} (h : SqL K H a xs) (q : R (Itv K a xs.length) H) : rRevQ K [.ref a] H R := ⟨a, xs, rfl, h, q⟩
end
theorem pi_revK {X : Cx} {K : PySem.W.Frag} {tg e : Expr} {ta : TA} (hK : X.K = K) (h : PI X tg e (iRev X.K ta)) : PI X tg e (iRev K ta) := by subst hK; exact h
/-- a footprint and what a step makes of it -/
structure Stp (G G' : Addr → Prop) (H H' : Hp) : Prop where
  kp : Kp G H H'
  gr : ∀ b, G' b → G b ∨ H b = none
theorem Stp.refl (G : Addr → Prop) (H : Hp) : Stp G G H H := ⟨Kp.refl H, fun b h => .inl h⟩
theorem Stp.trans {G G1 G2 : Addr → Prop} {H H1 H2 : Hp} (s : Stp G G1 H H1) (t : Stp G1 G2 H1 H2) : Stp G G2 H H2 := by
  refine ⟨s.kp.trans t.kp s.gr, fun b g => ?_⟩
  rcases t.gr b g with h | h
  · exact s.gr b h
  · by_cases q : G b
    · exact .inl q
    · cases e : H b with
      | none => exact .inr rfl
      | some o => rw [s.kp.get e q] at h; cases h
theorem Stp.pure {G : Addr → Prop} {H H' : Hp} (k : Kp F0 H H') : Stp G G H H' := ⟨k.mono fun _ z => z.elim, fun b h => .inl h⟩
theorem Stp.kp0 {G G' : Addr → Prop} {H H' : Hp} {b : Addr} {o : HO} (s : Stp G G' H H') (h : H b = some o) (n : ¬ G b) : ¬ G' b := fun z => by
  rcases s.gr b z with q | q
  · exact n q
  · rw [h] at q; cases q

/-- isinstance(e, c) in the suite that caught e, the class as the reading tells it -/
theorem c_isE {X : Cx} {a D : Addr} {cls : Value} {d : Option Addr} {oe : Obj} {pn : List (Addr × Obj)} (C : ExcC X.K D) (hz : Zc cls d oe) (hf : ∃ vs, oe.data = .fields vs) :
    CallR (X.suite a ((a, oe) :: pn)) (.builtin "isinstance") (fun xs H Q => cls = .ref D ∧ d = none ∧ rIsE X.K D a xs H Q) := fun pins s σ H xs us Q I r h => by
  obtain ⟨rfl, rfl, h⟩ := h
  exact call_isE C hz hf pins s σ H xs us Q I r h
theorem at_of_lt {a : List Int} {i : Nat} (h : i < a.length) : (a.map V.int)[i]? = some (.int (a.getD i 0)) := by
  rw [List.getElem?_map, List.getD_eq_getElem?_getD, List.getElem?_eq_getElem h]; rfl
end NV
namespace NV
open PySem L2
/-! the text by places -/
def top (i : Nat) : Stmt := PySem.Challenge.pw_nearvault_k19_steps_and_log_of_pagers.main.body.getD i (.Pass ⟨0, 0, 0, 0⟩)
abbrev s__wall : Stmt := top 0
abbrev s_Device___init__ : Stmt := inClass (top 7) 0
abbrev s_Device_step : Stmt := inClass (top 7) 1
abbrev s_Device_write_page : Stmt := inClass (top 7) 2
abbrev s_Device_sync_pages : Stmt := inClass (top 7) 3
abbrev s_Device_append : Stmt := inClass (top 7) 4
abbrev s_Device_clear : Stmt := inClass (top 7) 5
abbrev s_Device_sync_log : Stmt := inClass (top 7) 6
abbrev s_Device_durable_page : Stmt := inClass (top 7) 7
abbrev s_Device_page : Stmt := inClass (top 7) 8
abbrev s_Device_log : Stmt := inClass (top 7) 9
abbrev s_Device_limit : Stmt := inClass (top 7) 10
abbrev s_Device_crash : Stmt := inClass (top 7) 11
abbrev s_Device_steps : Stmt := inClass (top 7) 12
abbrev s_Device_pending : Stmt := inClass (top 7) 13
abbrev s_write_number : Stmt := top 9
abbrev s_read_number : Stmt := top 10
abbrev s_write_group : Stmt := top 13
abbrev s_read_groups : Stmt := top 14
abbrev s_Pager___init__ : Stmt := inClass (top 19) 0
abbrev s_Pager_count_head : Stmt := inClass (top 19) 1
abbrev s_Pager_read : Stmt := inClass (top 19) 2
abbrev s_Pager_write : Stmt := inClass (top 19) 3
abbrev s_Pager_field : Stmt := inClass (top 19) 4
abbrev s_Pager_set_field : Stmt := inClass (top 19) 5
abbrev s_Pager_allocate : Stmt := inClass (top 19) 6
abbrev s_Pager_release : Stmt := inClass (top 19) 7
abbrev s_Pager_commit : Stmt := inClass (top 19) 8
abbrev s_Pager_checkpoint : Stmt := inClass (top 19) 9
abbrev s_Pager_rollback : Stmt := inClass (top 19) 10
abbrev s__law_draw : Stmt := top 21
abbrev s__law_bytes : Stmt := top 22
abbrev s__law_new : Stmt := top 23
abbrev s__law_page : Stmt := top 24
abbrev s__law_write : Stmt := top 25
abbrev s__law_number : Stmt := top 26
abbrev s__law_set : Stmt := top 27
abbrev s__law_counted : Stmt := top 28
abbrev s__law_committed : Stmt := top 29
abbrev s__law_checked : Stmt := top 30
abbrev s__law_taken : Stmt := top 31
abbrev s__law_change : Stmt := top 32
abbrev s__law_same : Stmt := top 33
abbrev s_law : Stmt := top 34
theorem sc__wall : FnScope ["k"] ["k"] (defScope s__wall) := ⟨rfl, rfl, rfl, by decide +kernel, rfl, by decide +kernel, by decide +kernel⟩
theorem sc_Device___init__ : FnScope ["self"] ["self"] (defScope s_Device___init__) := ⟨rfl, rfl, rfl, by decide +kernel, rfl, by decide +kernel, by decide +kernel⟩
theorem sc_Device_step : FnScope ["self"] ["self"] (defScope s_Device_step) := ⟨rfl, rfl, rfl, by decide +kernel, rfl, by decide +kernel, by decide +kernel⟩
theorem sc_Device_write_page : FnScope ["self", "number", "data"] ["self", "number", "data"] (defScope s_Device_write_page) := ⟨rfl, rfl, rfl, by decide +kernel, rfl, by decide +kernel, by decide +kernel⟩
theorem sc_Device_sync_pages : FnScope ["self", "number", "data"] ["self"] (defScope s_Device_sync_pages) := ⟨rfl, rfl, rfl, by decide +kernel, rfl, by decide +kernel, by decide +kernel⟩
theorem sc_Device_append : FnScope ["self", "data", "byte"] ["self", "data"] (defScope s_Device_append) := ⟨rfl, rfl, rfl, by decide +kernel, rfl, by decide +kernel, by decide +kernel⟩
theorem sc_Device_clear : FnScope ["self"] ["self"] (defScope s_Device_clear) := ⟨rfl, rfl, rfl, by decide +kernel, rfl, by decide +kernel, by decide +kernel⟩
theorem sc_Device_sync_log : FnScope ["self"] ["self"] (defScope s_Device_sync_log) := ⟨rfl, rfl, rfl, by decide +kernel, rfl, by decide +kernel, by decide +kernel⟩
theorem sc_Device_durable_page : FnScope ["self", "number"] ["self", "number"] (defScope s_Device_durable_page) := ⟨rfl, rfl, rfl, by decide +kernel, rfl, by decide +kernel, by decide +kernel⟩
theorem sc_Device_page : FnScope ["self", "number", "other", "data"] ["self", "number"] (defScope s_Device_page) := ⟨rfl, rfl, rfl, by decide +kernel, rfl, by decide +kernel, by decide +kernel⟩
theorem sc_Device_log : FnScope ["self", "data", "byte"] ["self"] (defScope s_Device_log) := ⟨rfl, rfl, rfl, by decide +kernel, rfl, by decide +kernel, by decide +kernel⟩
theorem sc_Device_limit : FnScope ["self", "steps"] ["self", "steps"] (defScope s_Device_limit) := ⟨rfl, rfl, rfl, by decide +kernel, rfl, by decide +kernel, by decide +kernel⟩
theorem sc_Device_crash : FnScope ["self", "fates", "kept", "place", "number", "data"] ["self", "fates", "kept"] (defScope s_Device_crash) := ⟨rfl, rfl, rfl, by decide +kernel, rfl, by decide +kernel, by decide +kernel⟩
theorem sc_Device_steps : FnScope ["self"] ["self"] (defScope s_Device_steps) := ⟨rfl, rfl, rfl, by decide +kernel, rfl, by decide +kernel, by decide +kernel⟩
theorem sc_Device_pending : FnScope ["self"] ["self"] (defScope s_Device_pending) := ⟨rfl, rfl, rfl, by decide +kernel, rfl, by decide +kernel, by decide +kernel⟩
theorem sc_write_number : FnScope ["width", "number", "k"] ["width", "number"] (defScope s_write_number) := ⟨rfl, rfl, rfl, by decide +kernel, rfl, by decide +kernel, by decide +kernel⟩
theorem sc_read_number : FnScope ["data", "place", "width", "number", "byte"] ["data", "place", "width"] (defScope s_read_number) := ⟨rfl, rfl, rfl, by decide +kernel, rfl, by decide +kernel, by decide +kernel⟩
theorem sc_write_group : FnScope ["pairs", "data", "number", "page"] ["pairs"] (defScope s_write_group) := ⟨rfl, rfl, rfl, by decide +kernel, rfl, by decide +kernel, by decide +kernel⟩
theorem sc_read_groups : FnScope ["data", "groups", "place", "count", "pairs", "k", "start"] ["data"] (defScope s_read_groups) := ⟨rfl, rfl, rfl, by decide +kernel, rfl, by decide +kernel, by decide +kernel⟩
theorem sc_Pager___init__ : FnScope ["self", "device", "log", "pairs", "number", "data"] ["self", "device"] (defScope s_Pager___init__) := ⟨rfl, rfl, rfl, by decide +kernel, rfl, by decide +kernel, by decide +kernel⟩
theorem sc_Pager_count_head : FnScope ["self"] ["self"] (defScope s_Pager_count_head) := ⟨rfl, rfl, rfl, by decide +kernel, rfl, by decide +kernel, by decide +kernel⟩
theorem sc_Pager_read : FnScope ["self", "number"] ["self", "number"] (defScope s_Pager_read) := ⟨rfl, rfl, rfl, by decide +kernel, rfl, by decide +kernel, by decide +kernel⟩
theorem sc_Pager_write : FnScope ["self", "number", "data"] ["self", "number", "data"] (defScope s_Pager_write) := ⟨rfl, rfl, rfl, by decide +kernel, rfl, by decide +kernel, by decide +kernel⟩
theorem sc_Pager_field : FnScope ["self", "k"] ["self", "k"] (defScope s_Pager_field) := ⟨rfl, rfl, rfl, by decide +kernel, rfl, by decide +kernel, by decide +kernel⟩
theorem sc_Pager_set_field : FnScope ["self", "k", "number", "data"] ["self", "k", "number"] (defScope s_Pager_set_field) := ⟨rfl, rfl, rfl, by decide +kernel, rfl, by decide +kernel, by decide +kernel⟩
theorem sc_Pager_allocate : FnScope ["self", "number"] ["self"] (defScope s_Pager_allocate) := ⟨rfl, rfl, rfl, by decide +kernel, rfl, by decide +kernel, by decide +kernel⟩
theorem sc_Pager_release : FnScope ["self", "number"] ["self", "number"] (defScope s_Pager_release) := ⟨rfl, rfl, rfl, by decide +kernel, rfl, by decide +kernel, by decide +kernel⟩
theorem sc_Pager_commit : FnScope ["self", "number"] ["self"] (defScope s_Pager_commit) := ⟨rfl, rfl, rfl, by decide +kernel, rfl, by decide +kernel, by decide +kernel⟩
theorem sc_Pager_checkpoint : FnScope ["self", "number"] ["self"] (defScope s_Pager_checkpoint) := ⟨rfl, rfl, rfl, by decide +kernel, rfl, by decide +kernel, by decide +kernel⟩
theorem sc_Pager_rollback : FnScope ["self"] ["self"] (defScope s_Pager_rollback) := ⟨rfl, rfl, rfl, by decide +kernel, rfl, by decide +kernel, by decide +kernel⟩
theorem sc__law_draw : FnScope ["_law_state", "_law_script", "_law_size", "_law_cell", "_law_mixed", "_law_digit"] ["_law_state", "_law_script", "_law_size"] (defScope s__law_draw) := ⟨rfl, rfl, rfl, by decide +kernel, rfl, by decide +kernel, by decide +kernel⟩
theorem sc__law_bytes : FnScope ["_law_number_here", "_law_k"] ["_law_number_here"] (defScope s__law_bytes) := ⟨rfl, rfl, rfl, by decide +kernel, rfl, by decide +kernel, by decide +kernel⟩
theorem sc__law_new : FnScope [] [] (defScope s__law_new) := ⟨rfl, rfl, rfl, by decide +kernel, rfl, by decide +kernel, by decide +kernel⟩
theorem sc__law_page : FnScope ["_law_model", "_law_number_here", "_law_name"] ["_law_model", "_law_number_here"] (defScope s__law_page) := ⟨rfl, rfl, rfl, by decide +kernel, rfl, by decide +kernel, by decide +kernel⟩
theorem sc__law_write : FnScope ["_law_model", "_law_number_here", "_law_data", "_law_dirty"] ["_law_model", "_law_number_here", "_law_data"] (defScope s__law_write) := ⟨rfl, rfl, rfl, by decide +kernel, rfl, by decide +kernel, by decide +kernel⟩
theorem sc__law_number : FnScope ["_law_model", "_law_k", "_law_page_here"] ["_law_model", "_law_k"] (defScope s__law_number) := ⟨rfl, rfl, rfl, by decide +kernel, rfl, by decide +kernel, by decide +kernel⟩
theorem sc__law_set : FnScope ["_law_model", "_law_k", "_law_number_here", "_law_page_here"] ["_law_model", "_law_k", "_law_number_here"] (defScope s__law_set) := ⟨rfl, rfl, rfl, by decide +kernel, rfl, by decide +kernel, by decide +kernel⟩
theorem sc__law_counted : FnScope ["_law_model"] ["_law_model"] (defScope s__law_counted) := ⟨rfl, rfl, rfl, by decide +kernel, rfl, by decide +kernel, by decide +kernel⟩
theorem sc__law_committed : FnScope ["_law_model", "_law_dirty", "_law_log", "_law_since", "_law_number_here"] ["_law_model"] (defScope s__law_committed) := ⟨rfl, rfl, rfl, by decide +kernel, rfl, by decide +kernel, by decide +kernel⟩
theorem sc__law_checked : FnScope ["_law_model", "_law_disk", "_law_since", "_law_number_here"] ["_law_model"] (defScope s__law_checked) := ⟨rfl, rfl, rfl, by decide +kernel, rfl, by decide +kernel, by decide +kernel⟩
theorem sc__law_taken : FnScope ["_law_model", "_law_number_here", "_law_page_here"] ["_law_model"] (defScope s__law_taken) := ⟨rfl, rfl, rfl, by decide +kernel, rfl, by decide +kernel, by decide +kernel⟩
theorem sc__law_change : FnScope ["_law_state", "_law_script", "_law_pager", "_law_model", "_law_taken_here", "_law_kind", "_law_k", "_law_number_here", "_law_data"] ["_law_state", "_law_script", "_law_pager", "_law_model", "_law_taken_here"] (defScope s__law_change) := ⟨rfl, rfl, rfl, by decide +kernel, rfl, by decide +kernel, by decide +kernel⟩
theorem sc__law_same : FnScope ["_law_device", "_law_pager", "_law_model", "_law_used", "_law_number_here"] ["_law_device", "_law_pager", "_law_model", "_law_used"] (defScope s__law_same) := ⟨rfl, rfl, rfl, by decide +kernel, rfl, by decide +kernel, by decide +kernel⟩
theorem sc_law : FnScope ["_law_script", "_law_state", "_law_device", "_law_pager", "_law_model", "_law_taken_here", "_law_kept", "_law_turn", "_law_kind"] ["_law_script"] (defScope s_law) := ⟨rfl, rfl, rfl, by decide +kernel, rfl, by decide +kernel, by decide +kernel⟩
/-- the addresses of the classes -/
structure Cl where
  VaultError : Addr
  PowerCut : Addr
  Device : Addr
  Pager : Addr
def F_Device1 (v0 : V) : List (Str × V) := [("pages", v0)]
def F_Device2 (v0 v1 : V) : List (Str × V) := [("pages", v0), ("page_writes", v1)]
def F_Device3 (v0 v1 v2 : V) : List (Str × V) := [("pages", v0), ("page_writes", v1), ("durable_log", v2)]
def F_Device4 (v0 v1 v2 v3 : V) : List (Str × V) := [("pages", v0), ("page_writes", v1), ("durable_log", v2), ("log_steps", v3)]
def F_Device5 (v0 v1 v2 v3 v4 : V) : List (Str × V) := [("pages", v0), ("page_writes", v1), ("durable_log", v2), ("log_steps", v3), ("done", v4)]
def F_Device (v0 v1 v2 v3 v4 v5 : V) : List (Str × V) := [("pages", v0), ("page_writes", v1), ("durable_log", v2), ("log_steps", v3), ("done", v4), ("most", v5)]
theorem lk_Device_pages {v0 v1 v2 v3 v4 v5 : V} : (F_Device v0 v1 v2 v3 v4 v5).lookup ("pages" : Str) = some v0 := by kernel_rfl
theorem pt_Device_pages {v0 v1 v2 v3 v4 v5 : V} {u : V} : putF "pages" u (F_Device v0 v1 v2 v3 v4 v5) = (F_Device u v1 v2 v3 v4 v5) := by kernel_rfl
theorem pi_Device_pages {v0 : V} : putF "pages" v0 ([] : List (Str × V)) = (F_Device1 v0) := by kernel_rfl
theorem ln_Device_1 {v0 : V} : (F_Device1 v0).length < 1000 := by show 1 < 1000; decide
theorem lk_Device_page_writes {v0 v1 v2 v3 v4 v5 : V} : (F_Device v0 v1 v2 v3 v4 v5).lookup ("page_writes" : Str) = some v1 := by kernel_rfl
theorem pt_Device_page_writes {v0 v1 v2 v3 v4 v5 : V} {u : V} : putF "page_writes" u (F_Device v0 v1 v2 v3 v4 v5) = (F_Device v0 u v2 v3 v4 v5) := by kernel_rfl
theorem pi_Device_page_writes {v0 v1 : V} : putF "page_writes" v1 (F_Device1 v0) = (F_Device2 v0 v1) := by kernel_rfl
theorem li_Device_pages_1 {v0 : V} : (F_Device1 v0).lookup ("pages" : Str) = some v0 := by kernel_rfl
theorem ln_Device_2 {v0 v1 : V} : (F_Device2 v0 v1).length < 1000 := by show 2 < 1000; decide
theorem lk_Device_durable_log {v0 v1 v2 v3 v4 v5 : V} : (F_Device v0 v1 v2 v3 v4 v5).lookup ("durable_log" : Str) = some v2 := by kernel_rfl
theorem pt_Device_durable_log {v0 v1 v2 v3 v4 v5 : V} {u : V} : putF "durable_log" u (F_Device v0 v1 v2 v3 v4 v5) = (F_Device v0 v1 u v3 v4 v5) := by kernel_rfl
theorem pi_Device_durable_log {v0 v1 v2 : V} : putF "durable_log" v2 (F_Device2 v0 v1) = (F_Device3 v0 v1 v2) := by kernel_rfl
theorem li_Device_pages_2 {v0 v1 : V} : (F_Device2 v0 v1).lookup ("pages" : Str) = some v0 := by kernel_rfl
theorem li_Device_page_writes_2 {v0 v1 : V} : (F_Device2 v0 v1).lookup ("page_writes" : Str) = some v1 := by kernel_rfl
theorem ln_Device_3 {v0 v1 v2 : V} : (F_Device3 v0 v1 v2).length < 1000 := by show 3 < 1000; decide
theorem lk_Device_log_steps {v0 v1 v2 v3 v4 v5 : V} : (F_Device v0 v1 v2 v3 v4 v5).lookup ("log_steps" : Str) = some v3 := by kernel_rfl
theorem pt_Device_log_steps {v0 v1 v2 v3 v4 v5 : V} {u : V} : putF "log_steps" u (F_Device v0 v1 v2 v3 v4 v5) = (F_Device v0 v1 v2 u v4 v5) := by kernel_rfl
theorem pi_Device_log_steps {v0 v1 v2 v3 : V} : putF "log_steps" v3 (F_Device3 v0 v1 v2) = (F_Device4 v0 v1 v2 v3) := by kernel_rfl
theorem li_Device_pages_3 {v0 v1 v2 : V} : (F_Device3 v0 v1 v2).lookup ("pages" : Str) = some v0 := by kernel_rfl
theorem li_Device_page_writes_3 {v0 v1 v2 : V} : (F_Device3 v0 v1 v2).lookup ("page_writes" : Str) = some v1 := by kernel_rfl
theorem li_Device_durable_log_3 {v0 v1 v2 : V} : (F_Device3 v0 v1 v2).lookup ("durable_log" : Str) = some v2 := by kernel_rfl
theorem ln_Device_4 {v0 v1 v2 v3 : V} : (F_Device4 v0 v1 v2 v3).length < 1000 := by show 4 < 1000; decide
theorem lk_Device_done {v0 v1 v2 v3 v4 v5 : V} : (F_Device v0 v1 v2 v3 v4 v5).lookup ("done" : Str) = some v4 := by kernel_rfl
theorem pt_Device_done {v0 v1 v2 v3 v4 v5 : V} {u : V} : putF "done" u (F_Device v0 v1 v2 v3 v4 v5) = (F_Device v0 v1 v2 v3 u v5) := by kernel_rfl
theorem pi_Device_done {v0 v1 v2 v3 v4 : V} : putF "done" v4 (F_Device4 v0 v1 v2 v3) = (F_Device5 v0 v1 v2 v3 v4) := by kernel_rfl
theorem li_Device_pages_4 {v0 v1 v2 v3 : V} : (F_Device4 v0 v1 v2 v3).lookup ("pages" : Str) = some v0 := by kernel_rfl
theorem li_Device_page_writes_4 {v0 v1 v2 v3 : V} : (F_Device4 v0 v1 v2 v3).lookup ("page_writes" : Str) = some v1 := by kernel_rfl
theorem li_Device_durable_log_4 {v0 v1 v2 v3 : V} : (F_Device4 v0 v1 v2 v3).lookup ("durable_log" : Str) = some v2 := by kernel_rfl
theorem li_Device_log_steps_4 {v0 v1 v2 v3 : V} : (F_Device4 v0 v1 v2 v3).lookup ("log_steps" : Str) = some v3 := by kernel_rfl
theorem ln_Device_5 {v0 v1 v2 v3 v4 : V} : (F_Device5 v0 v1 v2 v3 v4).length < 1000 := by show 5 < 1000; decide
theorem lk_Device_most {v0 v1 v2 v3 v4 v5 : V} : (F_Device v0 v1 v2 v3 v4 v5).lookup ("most" : Str) = some v5 := by kernel_rfl
theorem pt_Device_most {v0 v1 v2 v3 v4 v5 : V} {u : V} : putF "most" u (F_Device v0 v1 v2 v3 v4 v5) = (F_Device v0 v1 v2 v3 v4 u) := by kernel_rfl
theorem pi_Device_most {v0 v1 v2 v3 v4 v5 : V} : putF "most" v5 (F_Device5 v0 v1 v2 v3 v4) = (F_Device v0 v1 v2 v3 v4 v5) := by kernel_rfl
theorem li_Device_pages_5 {v0 v1 v2 v3 v4 : V} : (F_Device5 v0 v1 v2 v3 v4).lookup ("pages" : Str) = some v0 := by kernel_rfl
theorem li_Device_page_writes_5 {v0 v1 v2 v3 v4 : V} : (F_Device5 v0 v1 v2 v3 v4).lookup ("page_writes" : Str) = some v1 := by kernel_rfl
theorem li_Device_durable_log_5 {v0 v1 v2 v3 v4 : V} : (F_Device5 v0 v1 v2 v3 v4).lookup ("durable_log" : Str) = some v2 := by kernel_rfl
theorem li_Device_log_steps_5 {v0 v1 v2 v3 v4 : V} : (F_Device5 v0 v1 v2 v3 v4).lookup ("log_steps" : Str) = some v3 := by kernel_rfl
theorem li_Device_done_5 {v0 v1 v2 v3 v4 : V} : (F_Device5 v0 v1 v2 v3 v4).lookup ("done" : Str) = some v4 := by kernel_rfl
theorem ln_Device_6 {v0 v1 v2 v3 v4 v5 : V} : (F_Device v0 v1 v2 v3 v4 v5).length < 1000 := by show 6 < 1000; decide
theorem no_Device_step {v0 v1 v2 v3 v4 v5 : V} : (F_Device v0 v1 v2 v3 v4 v5).lookup ("step" : Str) = none := by kernel_rfl
theorem ni_Device_step_1 {v0 : V} : (F_Device1 v0).lookup ("step" : Str) = none := by kernel_rfl
theorem ni_Device_step_2 {v0 v1 : V} : (F_Device2 v0 v1).lookup ("step" : Str) = none := by kernel_rfl
theorem ni_Device_step_3 {v0 v1 v2 : V} : (F_Device3 v0 v1 v2).lookup ("step" : Str) = none := by kernel_rfl
theorem ni_Device_step_4 {v0 v1 v2 v3 : V} : (F_Device4 v0 v1 v2 v3).lookup ("step" : Str) = none := by kernel_rfl
theorem ni_Device_step_5 {v0 v1 v2 v3 v4 : V} : (F_Device5 v0 v1 v2 v3 v4).lookup ("step" : Str) = none := by kernel_rfl
theorem no_Device_write_page {v0 v1 v2 v3 v4 v5 : V} : (F_Device v0 v1 v2 v3 v4 v5).lookup ("write_page" : Str) = none := by kernel_rfl
theorem ni_Device_write_page_1 {v0 : V} : (F_Device1 v0).lookup ("write_page" : Str) = none := by kernel_rfl
theorem ni_Device_write_page_2 {v0 v1 : V} : (F_Device2 v0 v1).lookup ("write_page" : Str) = none := by kernel_rfl
theorem ni_Device_write_page_3 {v0 v1 v2 : V} : (F_Device3 v0 v1 v2).lookup ("write_page" : Str) = none := by kernel_rfl
theorem ni_Device_write_page_4 {v0 v1 v2 v3 : V} : (F_Device4 v0 v1 v2 v3).lookup ("write_page" : Str) = none := by kernel_rfl
theorem ni_Device_write_page_5 {v0 v1 v2 v3 v4 : V} : (F_Device5 v0 v1 v2 v3 v4).lookup ("write_page" : Str) = none := by kernel_rfl
theorem no_Device_sync_pages {v0 v1 v2 v3 v4 v5 : V} : (F_Device v0 v1 v2 v3 v4 v5).lookup ("sync_pages" : Str) = none := by kernel_rfl
theorem ni_Device_sync_pages_1 {v0 : V} : (F_Device1 v0).lookup ("sync_pages" : Str) = none := by kernel_rfl
theorem ni_Device_sync_pages_2 {v0 v1 : V} : (F_Device2 v0 v1).lookup ("sync_pages" : Str) = none := by kernel_rfl
theorem ni_Device_sync_pages_3 {v0 v1 v2 : V} : (F_Device3 v0 v1 v2).lookup ("sync_pages" : Str) = none := by kernel_rfl
theorem ni_Device_sync_pages_4 {v0 v1 v2 v3 : V} : (F_Device4 v0 v1 v2 v3).lookup ("sync_pages" : Str) = none := by kernel_rfl
theorem ni_Device_sync_pages_5 {v0 v1 v2 v3 v4 : V} : (F_Device5 v0 v1 v2 v3 v4).lookup ("sync_pages" : Str) = none := by kernel_rfl
theorem no_Device_append {v0 v1 v2 v3 v4 v5 : V} : (F_Device v0 v1 v2 v3 v4 v5).lookup ("append" : Str) = none := by kernel_rfl
theorem ni_Device_append_1 {v0 : V} : (F_Device1 v0).lookup ("append" : Str) = none := by kernel_rfl
theorem ni_Device_append_2 {v0 v1 : V} : (F_Device2 v0 v1).lookup ("append" : Str) = none := by kernel_rfl
theorem ni_Device_append_3 {v0 v1 v2 : V} : (F_Device3 v0 v1 v2).lookup ("append" : Str) = none := by kernel_rfl
theorem ni_Device_append_4 {v0 v1 v2 v3 : V} : (F_Device4 v0 v1 v2 v3).lookup ("append" : Str) = none := by kernel_rfl
theorem ni_Device_append_5 {v0 v1 v2 v3 v4 : V} : (F_Device5 v0 v1 v2 v3 v4).lookup ("append" : Str) = none := by kernel_rfl
theorem no_Device_clear {v0 v1 v2 v3 v4 v5 : V} : (F_Device v0 v1 v2 v3 v4 v5).lookup ("clear" : Str) = none := by kernel_rfl
theorem ni_Device_clear_1 {v0 : V} : (F_Device1 v0).lookup ("clear" : Str) = none := by kernel_rfl
theorem ni_Device_clear_2 {v0 v1 : V} : (F_Device2 v0 v1).lookup ("clear" : Str) = none := by kernel_rfl
theorem ni_Device_clear_3 {v0 v1 v2 : V} : (F_Device3 v0 v1 v2).lookup ("clear" : Str) = none := by kernel_rfl
theorem ni_Device_clear_4 {v0 v1 v2 v3 : V} : (F_Device4 v0 v1 v2 v3).lookup ("clear" : Str) = none := by kernel_rfl
theorem ni_Device_clear_5 {v0 v1 v2 v3 v4 : V} : (F_Device5 v0 v1 v2 v3 v4).lookup ("clear" : Str) = none := by kernel_rfl
theorem no_Device_sync_log {v0 v1 v2 v3 v4 v5 : V} : (F_Device v0 v1 v2 v3 v4 v5).lookup ("sync_log" : Str) = none := by kernel_rfl
theorem ni_Device_sync_log_1 {v0 : V} : (F_Device1 v0).lookup ("sync_log" : Str) = none := by kernel_rfl
theorem ni_Device_sync_log_2 {v0 v1 : V} : (F_Device2 v0 v1).lookup ("sync_log" : Str) = none := by kernel_rfl
theorem ni_Device_sync_log_3 {v0 v1 v2 : V} : (F_Device3 v0 v1 v2).lookup ("sync_log" : Str) = none := by kernel_rfl
theorem ni_Device_sync_log_4 {v0 v1 v2 v3 : V} : (F_Device4 v0 v1 v2 v3).lookup ("sync_log" : Str) = none := by kernel_rfl
theorem ni_Device_sync_log_5 {v0 v1 v2 v3 v4 : V} : (F_Device5 v0 v1 v2 v3 v4).lookup ("sync_log" : Str) = none := by kernel_rfl
theorem no_Device_durable_page {v0 v1 v2 v3 v4 v5 : V} : (F_Device v0 v1 v2 v3 v4 v5).lookup ("durable_page" : Str) = none := by kernel_rfl
theorem ni_Device_durable_page_1 {v0 : V} : (F_Device1 v0).lookup ("durable_page" : Str) = none := by kernel_rfl
theorem ni_Device_durable_page_2 {v0 v1 : V} : (F_Device2 v0 v1).lookup ("durable_page" : Str) = none := by kernel_rfl
theorem ni_Device_durable_page_3 {v0 v1 v2 : V} : (F_Device3 v0 v1 v2).lookup ("durable_page" : Str) = none := by kernel_rfl
theorem ni_Device_durable_page_4 {v0 v1 v2 v3 : V} : (F_Device4 v0 v1 v2 v3).lookup ("durable_page" : Str) = none := by kernel_rfl
theorem ni_Device_durable_page_5 {v0 v1 v2 v3 v4 : V} : (F_Device5 v0 v1 v2 v3 v4).lookup ("durable_page" : Str) = none := by kernel_rfl
theorem no_Device_page {v0 v1 v2 v3 v4 v5 : V} : (F_Device v0 v1 v2 v3 v4 v5).lookup ("page" : Str) = none := by kernel_rfl
theorem ni_Device_page_1 {v0 : V} : (F_Device1 v0).lookup ("page" : Str) = none := by kernel_rfl
theorem ni_Device_page_2 {v0 v1 : V} : (F_Device2 v0 v1).lookup ("page" : Str) = none := by kernel_rfl
theorem ni_Device_page_3 {v0 v1 v2 : V} : (F_Device3 v0 v1 v2).lookup ("page" : Str) = none := by kernel_rfl
theorem ni_Device_page_4 {v0 v1 v2 v3 : V} : (F_Device4 v0 v1 v2 v3).lookup ("page" : Str) = none := by kernel_rfl
theorem ni_Device_page_5 {v0 v1 v2 v3 v4 : V} : (F_Device5 v0 v1 v2 v3 v4).lookup ("page" : Str) = none := by kernel_rfl
theorem no_Device_log {v0 v1 v2 v3 v4 v5 : V} : (F_Device v0 v1 v2 v3 v4 v5).lookup ("log" : Str) = none := by kernel_rfl
theorem ni_Device_log_1 {v0 : V} : (F_Device1 v0).lookup ("log" : Str) = none := by kernel_rfl
theorem ni_Device_log_2 {v0 v1 : V} : (F_Device2 v0 v1).lookup ("log" : Str) = none := by kernel_rfl
theorem ni_Device_log_3 {v0 v1 v2 : V} : (F_Device3 v0 v1 v2).lookup ("log" : Str) = none := by kernel_rfl
theorem ni_Device_log_4 {v0 v1 v2 v3 : V} : (F_Device4 v0 v1 v2 v3).lookup ("log" : Str) = none := by kernel_rfl
theorem ni_Device_log_5 {v0 v1 v2 v3 v4 : V} : (F_Device5 v0 v1 v2 v3 v4).lookup ("log" : Str) = none := by kernel_rfl
theorem no_Device_limit {v0 v1 v2 v3 v4 v5 : V} : (F_Device v0 v1 v2 v3 v4 v5).lookup ("limit" : Str) = none := by kernel_rfl
theorem ni_Device_limit_1 {v0 : V} : (F_Device1 v0).lookup ("limit" : Str) = none := by kernel_rfl
theorem ni_Device_limit_2 {v0 v1 : V} : (F_Device2 v0 v1).lookup ("limit" : Str) = none := by kernel_rfl
theorem ni_Device_limit_3 {v0 v1 v2 : V} : (F_Device3 v0 v1 v2).lookup ("limit" : Str) = none := by kernel_rfl
theorem ni_Device_limit_4 {v0 v1 v2 v3 : V} : (F_Device4 v0 v1 v2 v3).lookup ("limit" : Str) = none := by kernel_rfl
theorem ni_Device_limit_5 {v0 v1 v2 v3 v4 : V} : (F_Device5 v0 v1 v2 v3 v4).lookup ("limit" : Str) = none := by kernel_rfl
theorem no_Device_crash {v0 v1 v2 v3 v4 v5 : V} : (F_Device v0 v1 v2 v3 v4 v5).lookup ("crash" : Str) = none := by kernel_rfl
theorem ni_Device_crash_1 {v0 : V} : (F_Device1 v0).lookup ("crash" : Str) = none := by kernel_rfl
theorem ni_Device_crash_2 {v0 v1 : V} : (F_Device2 v0 v1).lookup ("crash" : Str) = none := by kernel_rfl
theorem ni_Device_crash_3 {v0 v1 v2 : V} : (F_Device3 v0 v1 v2).lookup ("crash" : Str) = none := by kernel_rfl
theorem ni_Device_crash_4 {v0 v1 v2 v3 : V} : (F_Device4 v0 v1 v2 v3).lookup ("crash" : Str) = none := by kernel_rfl
theorem ni_Device_crash_5 {v0 v1 v2 v3 v4 : V} : (F_Device5 v0 v1 v2 v3 v4).lookup ("crash" : Str) = none := by kernel_rfl
theorem no_Device_steps {v0 v1 v2 v3 v4 v5 : V} : (F_Device v0 v1 v2 v3 v4 v5).lookup ("steps" : Str) = none := by kernel_rfl
theorem ni_Device_steps_1 {v0 : V} : (F_Device1 v0).lookup ("steps" : Str) = none := by kernel_rfl
theorem ni_Device_steps_2 {v0 v1 : V} : (F_Device2 v0 v1).lookup ("steps" : Str) = none := by kernel_rfl
theorem ni_Device_steps_3 {v0 v1 v2 : V} : (F_Device3 v0 v1 v2).lookup ("steps" : Str) = none := by kernel_rfl
theorem ni_Device_steps_4 {v0 v1 v2 v3 : V} : (F_Device4 v0 v1 v2 v3).lookup ("steps" : Str) = none := by kernel_rfl
theorem ni_Device_steps_5 {v0 v1 v2 v3 v4 : V} : (F_Device5 v0 v1 v2 v3 v4).lookup ("steps" : Str) = none := by kernel_rfl
theorem no_Device_pending {v0 v1 v2 v3 v4 v5 : V} : (F_Device v0 v1 v2 v3 v4 v5).lookup ("pending" : Str) = none := by kernel_rfl
theorem ni_Device_pending_1 {v0 : V} : (F_Device1 v0).lookup ("pending" : Str) = none := by kernel_rfl
theorem ni_Device_pending_2 {v0 v1 : V} : (F_Device2 v0 v1).lookup ("pending" : Str) = none := by kernel_rfl
theorem ni_Device_pending_3 {v0 v1 v2 : V} : (F_Device3 v0 v1 v2).lookup ("pending" : Str) = none := by kernel_rfl
theorem ni_Device_pending_4 {v0 v1 v2 v3 : V} : (F_Device4 v0 v1 v2 v3).lookup ("pending" : Str) = none := by kernel_rfl
theorem ni_Device_pending_5 {v0 v1 v2 v3 v4 : V} : (F_Device5 v0 v1 v2 v3 v4).lookup ("pending" : Str) = none := by kernel_rfl
def F_Pager1 (v0 : V) : List (Str × V) := [("device", v0)]
def F_Pager2 (v0 v1 : V) : List (Str × V) := [("device", v0), ("committed", v1)]
def F_Pager (v0 v1 v2 : V) : List (Str × V) := [("device", v0), ("committed", v1), ("dirty", v2)]
theorem lk_Pager_device {v0 v1 v2 : V} : (F_Pager v0 v1 v2).lookup ("device" : Str) = some v0 := by kernel_rfl
theorem pt_Pager_device {v0 v1 v2 : V} {u : V} : putF "device" u (F_Pager v0 v1 v2) = (F_Pager u v1 v2) := by kernel_rfl
theorem pi_Pager_device {v0 : V} : putF "device" v0 ([] : List (Str × V)) = (F_Pager1 v0) := by kernel_rfl
theorem ln_Pager_1 {v0 : V} : (F_Pager1 v0).length < 1000 := by show 1 < 1000; decide
theorem lk_Pager_committed {v0 v1 v2 : V} : (F_Pager v0 v1 v2).lookup ("committed" : Str) = some v1 := by kernel_rfl
theorem pt_Pager_committed {v0 v1 v2 : V} {u : V} : putF "committed" u (F_Pager v0 v1 v2) = (F_Pager v0 u v2) := by kernel_rfl
theorem pi_Pager_committed {v0 v1 : V} : putF "committed" v1 (F_Pager1 v0) = (F_Pager2 v0 v1) := by kernel_rfl
theorem li_Pager_device_1 {v0 : V} : (F_Pager1 v0).lookup ("device" : Str) = some v0 := by kernel_rfl
theorem ln_Pager_2 {v0 v1 : V} : (F_Pager2 v0 v1).length < 1000 := by show 2 < 1000; decide
theorem lk_Pager_dirty {v0 v1 v2 : V} : (F_Pager v0 v1 v2).lookup ("dirty" : Str) = some v2 := by kernel_rfl
theorem pt_Pager_dirty {v0 v1 v2 : V} {u : V} : putF "dirty" u (F_Pager v0 v1 v2) = (F_Pager v0 v1 u) := by kernel_rfl
theorem pi_Pager_dirty {v0 v1 v2 : V} : putF "dirty" v2 (F_Pager2 v0 v1) = (F_Pager v0 v1 v2) := by kernel_rfl
theorem li_Pager_device_2 {v0 v1 : V} : (F_Pager2 v0 v1).lookup ("device" : Str) = some v0 := by kernel_rfl
theorem li_Pager_committed_2 {v0 v1 : V} : (F_Pager2 v0 v1).lookup ("committed" : Str) = some v1 := by kernel_rfl
theorem ln_Pager_3 {v0 v1 v2 : V} : (F_Pager v0 v1 v2).length < 1000 := by show 3 < 1000; decide
theorem no_Pager_count_head {v0 v1 v2 : V} : (F_Pager v0 v1 v2).lookup ("count_head" : Str) = none := by kernel_rfl
theorem ni_Pager_count_head_1 {v0 : V} : (F_Pager1 v0).lookup ("count_head" : Str) = none := by kernel_rfl
theorem ni_Pager_count_head_2 {v0 v1 : V} : (F_Pager2 v0 v1).lookup ("count_head" : Str) = none := by kernel_rfl
theorem no_Pager_read {v0 v1 v2 : V} : (F_Pager v0 v1 v2).lookup ("read" : Str) = none := by kernel_rfl
theorem ni_Pager_read_1 {v0 : V} : (F_Pager1 v0).lookup ("read" : Str) = none := by kernel_rfl
theorem ni_Pager_read_2 {v0 v1 : V} : (F_Pager2 v0 v1).lookup ("read" : Str) = none := by kernel_rfl
theorem no_Pager_write {v0 v1 v2 : V} : (F_Pager v0 v1 v2).lookup ("write" : Str) = none := by kernel_rfl
theorem ni_Pager_write_1 {v0 : V} : (F_Pager1 v0).lookup ("write" : Str) = none := by kernel_rfl
theorem ni_Pager_write_2 {v0 v1 : V} : (F_Pager2 v0 v1).lookup ("write" : Str) = none := by kernel_rfl
theorem no_Pager_field {v0 v1 v2 : V} : (F_Pager v0 v1 v2).lookup ("field" : Str) = none := by kernel_rfl
theorem ni_Pager_field_1 {v0 : V} : (F_Pager1 v0).lookup ("field" : Str) = none := by kernel_rfl
theorem ni_Pager_field_2 {v0 v1 : V} : (F_Pager2 v0 v1).lookup ("field" : Str) = none := by kernel_rfl
theorem no_Pager_set_field {v0 v1 v2 : V} : (F_Pager v0 v1 v2).lookup ("set_field" : Str) = none := by kernel_rfl
theorem ni_Pager_set_field_1 {v0 : V} : (F_Pager1 v0).lookup ("set_field" : Str) = none := by kernel_rfl
theorem ni_Pager_set_field_2 {v0 v1 : V} : (F_Pager2 v0 v1).lookup ("set_field" : Str) = none := by kernel_rfl
theorem no_Pager_allocate {v0 v1 v2 : V} : (F_Pager v0 v1 v2).lookup ("allocate" : Str) = none := by kernel_rfl
theorem ni_Pager_allocate_1 {v0 : V} : (F_Pager1 v0).lookup ("allocate" : Str) = none := by kernel_rfl
theorem ni_Pager_allocate_2 {v0 v1 : V} : (F_Pager2 v0 v1).lookup ("allocate" : Str) = none := by kernel_rfl
theorem no_Pager_release {v0 v1 v2 : V} : (F_Pager v0 v1 v2).lookup ("release" : Str) = none := by kernel_rfl
theorem ni_Pager_release_1 {v0 : V} : (F_Pager1 v0).lookup ("release" : Str) = none := by kernel_rfl
theorem ni_Pager_release_2 {v0 v1 : V} : (F_Pager2 v0 v1).lookup ("release" : Str) = none := by kernel_rfl
theorem no_Pager_commit {v0 v1 v2 : V} : (F_Pager v0 v1 v2).lookup ("commit" : Str) = none := by kernel_rfl
theorem ni_Pager_commit_1 {v0 : V} : (F_Pager1 v0).lookup ("commit" : Str) = none := by kernel_rfl
theorem ni_Pager_commit_2 {v0 v1 : V} : (F_Pager2 v0 v1).lookup ("commit" : Str) = none := by kernel_rfl
theorem no_Pager_checkpoint {v0 v1 v2 : V} : (F_Pager v0 v1 v2).lookup ("checkpoint" : Str) = none := by kernel_rfl
theorem ni_Pager_checkpoint_1 {v0 : V} : (F_Pager1 v0).lookup ("checkpoint" : Str) = none := by kernel_rfl
theorem ni_Pager_checkpoint_2 {v0 v1 : V} : (F_Pager2 v0 v1).lookup ("checkpoint" : Str) = none := by kernel_rfl
theorem no_Pager_rollback {v0 v1 v2 : V} : (F_Pager v0 v1 v2).lookup ("rollback" : Str) = none := by kernel_rfl
theorem ni_Pager_rollback_1 {v0 : V} : (F_Pager1 v0).lookup ("rollback" : Str) = none := by kernel_rfl
theorem ni_Pager_rollback_2 {v0 v1 : V} : (F_Pager2 v0 v1).lookup ("rollback" : Str) = none := by kernel_rfl
local macro_rules | `(tactic| walk_at "lk") => `(tactic| with_reducible first | exact lk_Device_pages | exact lk_Device_page_writes | exact li_Device_pages_1 | exact lk_Device_durable_log | exact li_Device_pages_2 | exact li_Device_page_writes_2 | exact lk_Device_log_steps | exact li_Device_pages_3 | exact li_Device_page_writes_3 | exact li_Device_durable_log_3 | exact lk_Device_done | exact li_Device_pages_4 | exact li_Device_page_writes_4 | exact li_Device_durable_log_4 | exact li_Device_log_steps_4 | exact lk_Device_most | exact li_Device_pages_5 | exact li_Device_page_writes_5 | exact li_Device_durable_log_5 | exact li_Device_log_steps_5 | exact li_Device_done_5 | exact lk_Pager_device | exact lk_Pager_committed | exact li_Pager_device_1 | exact lk_Pager_dirty | exact li_Pager_device_2 | exact li_Pager_committed_2)
local macro_rules | `(tactic| walk_at "pt") => `(tactic| with_reducible first | exact pt_Device_pages | exact pi_Device_pages | exact pt_Device_page_writes | exact pi_Device_page_writes | exact pt_Device_durable_log | exact pi_Device_durable_log | exact pt_Device_log_steps | exact pi_Device_log_steps | exact pt_Device_done | exact pi_Device_done | exact pt_Device_most | exact pi_Device_most | exact pt_Pager_device | exact pi_Pager_device | exact pt_Pager_committed | exact pi_Pager_committed | exact pt_Pager_dirty | exact pi_Pager_dirty)
local macro_rules | `(tactic| walk_at "no") => `(tactic| with_reducible first | exact no_Device_step | exact ni_Device_step_1 | exact ni_Device_step_2 | exact ni_Device_step_3 | exact ni_Device_step_4 | exact ni_Device_step_5 | exact no_Device_write_page | exact ni_Device_write_page_1 | exact ni_Device_write_page_2 | exact ni_Device_write_page_3 | exact ni_Device_write_page_4 | exact ni_Device_write_page_5 | exact no_Device_sync_pages | exact ni_Device_sync_pages_1 | exact ni_Device_sync_pages_2 | exact ni_Device_sync_pages_3 | exact ni_Device_sync_pages_4 | exact ni_Device_sync_pages_5 | exact no_Device_append | exact ni_Device_append_1 | exact ni_Device_append_2 | exact ni_Device_append_3 | exact ni_Device_append_4 | exact ni_Device_append_5 | exact no_Device_clear | exact ni_Device_clear_1 | exact ni_Device_clear_2 | exact ni_Device_clear_3 | exact ni_Device_clear_4 | exact ni_Device_clear_5 | exact no_Device_sync_log | exact ni_Device_sync_log_1 | exact ni_Device_sync_log_2 | exact ni_Device_sync_log_3 | exact ni_Device_sync_log_4 | exact ni_Device_sync_log_5 | exact no_Device_durable_page | exact ni_Device_durable_page_1 | exact ni_Device_durable_page_2 | exact ni_Device_durable_page_3 | exact ni_Device_durable_page_4 | exact ni_Device_durable_page_5 | exact no_Device_page | exact ni_Device_page_1 | exact ni_Device_page_2 | exact ni_Device_page_3 | exact ni_Device_page_4 | exact ni_Device_page_5 | exact no_Device_log | exact ni_Device_log_1 | exact ni_Device_log_2 | exact ni_Device_log_3 | exact ni_Device_log_4 | exact ni_Device_log_5 | exact no_Device_limit | exact ni_Device_limit_1 | exact ni_Device_limit_2 | exact ni_Device_limit_3 | exact ni_Device_limit_4 | exact ni_Device_limit_5 | exact no_Device_crash | exact ni_Device_crash_1 | exact ni_Device_crash_2 | exact ni_Device_crash_3 | exact ni_Device_crash_4 | exact ni_Device_crash_5 | exact no_Device_steps | exact ni_Device_steps_1 | exact ni_Device_steps_2 | exact ni_Device_steps_3 | exact ni_Device_steps_4 | exact ni_Device_steps_5 | exact no_Device_pending | exact ni_Device_pending_1 | exact ni_Device_pending_2 | exact ni_Device_pending_3 | exact ni_Device_pending_4 | exact ni_Device_pending_5 | exact no_Pager_count_head | exact ni_Pager_count_head_1 | exact ni_Pager_count_head_2 | exact no_Pager_read | exact ni_Pager_read_1 | exact ni_Pager_read_2 | exact no_Pager_write | exact ni_Pager_write_1 | exact ni_Pager_write_2 | exact no_Pager_field | exact ni_Pager_field_1 | exact ni_Pager_field_2 | exact no_Pager_set_field | exact ni_Pager_set_field_1 | exact ni_Pager_set_field_2 | exact no_Pager_allocate | exact ni_Pager_allocate_1 | exact ni_Pager_allocate_2 | exact no_Pager_release | exact ni_Pager_release_1 | exact ni_Pager_release_2 | exact no_Pager_commit | exact ni_Pager_commit_1 | exact ni_Pager_commit_2 | exact no_Pager_checkpoint | exact ni_Pager_checkpoint_1 | exact ni_Pager_checkpoint_2 | exact no_Pager_rollback | exact ni_Pager_rollback_1 | exact ni_Pager_rollback_2 | exact rfl)
local macro_rules | `(tactic| walk_at "ln") => `(tactic| first | (with_reducible first | exact ln_Device_1 | exact ln_Device_2 | exact ln_Device_3 | exact ln_Device_4 | exact ln_Device_5 | exact ln_Device_6 | exact ln_Pager_1 | exact ln_Pager_2 | exact ln_Pager_3) | (show 0 < 1000; decide))
def RD_model (v0 v1 v2 v3 v4 : V) : List (Key × V) := [(.inr "disk", v0), (.inr "log", v1), (.inr "since", v2), (.inr "dirty", v3), (.inr "steps", v4)]
theorem rv_model_disk {v0 v1 v2 v3 v4 : V} : valV (RD_model v0 v1 v2 v3 v4) (.inr "disk") = some v0 := by kernel_rfl
theorem rp_model_disk {v0 v1 v2 v3 v4 u : V} : putK (RD_model v0 v1 v2 v3 v4) (.inr "disk") u = RD_model u v1 v2 v3 v4 := by kernel_rfl
theorem rv_model_log {v0 v1 v2 v3 v4 : V} : valV (RD_model v0 v1 v2 v3 v4) (.inr "log") = some v1 := by kernel_rfl
theorem rp_model_log {v0 v1 v2 v3 v4 u : V} : putK (RD_model v0 v1 v2 v3 v4) (.inr "log") u = RD_model v0 u v2 v3 v4 := by kernel_rfl
theorem rv_model_since {v0 v1 v2 v3 v4 : V} : valV (RD_model v0 v1 v2 v3 v4) (.inr "since") = some v2 := by kernel_rfl
theorem rp_model_since {v0 v1 v2 v3 v4 u : V} : putK (RD_model v0 v1 v2 v3 v4) (.inr "since") u = RD_model v0 v1 u v3 v4 := by kernel_rfl
theorem rv_model_dirty {v0 v1 v2 v3 v4 : V} : valV (RD_model v0 v1 v2 v3 v4) (.inr "dirty") = some v3 := by kernel_rfl
theorem rp_model_dirty {v0 v1 v2 v3 v4 u : V} : putK (RD_model v0 v1 v2 v3 v4) (.inr "dirty") u = RD_model v0 v1 v2 u v4 := by kernel_rfl
theorem rv_model_steps {v0 v1 v2 v3 v4 : V} : valV (RD_model v0 v1 v2 v3 v4) (.inr "steps") = some v4 := by kernel_rfl
theorem rp_model_steps {v0 v1 v2 v3 v4 u : V} : putK (RD_model v0 v1 v2 v3 v4) (.inr "steps") u = RD_model v0 v1 v2 v3 u := by kernel_rfl
theorem rm_model {v0 v1 v2 v3 v4 : V} : mergeK [] (RD_model v0 v1 v2 v3 v4) = RD_model v0 v1 v2 v3 v4 := by kernel_rfl
local macro_rules | `(tactic| walk_at "rv") => `(tactic| with_reducible first | exact rv_model_disk | exact rv_model_log | exact rv_model_since | exact rv_model_dirty | exact rv_model_steps)
local macro_rules | `(tactic| walk_at "rp") => `(tactic| with_reducible first | exact rp_model_disk | exact rp_model_log | exact rp_model_since | exact rp_model_dirty | exact rp_model_steps)
/-- what the top has left -/
structure Txt (K : PySem.W.Frag) (mg : Str → Option Value) (c : Cl) : Prop where
  f__wall : ∃ f fd, Fun K "_wall" "_wall" s__wall f fd ∧ mg "_wall" = some (.ref f)
  f_Device___init__ : ∃ f fd, Fun K "__init__" "Device.__init__" s_Device___init__ f fd ∧ PySem.W.findIn K (.ref c.Device) "__init__" = some (some (.ref f)) ∧ PySem.W.isFn K (.ref f) = true
  f_Device_step : ∃ f fd, Fun K "step" "Device.step" s_Device_step f fd ∧ PySem.W.findIn K (.ref c.Device) "step" = some (some (.ref f)) ∧ PySem.W.isFn K (.ref f) = true
  f_Device_write_page : ∃ f fd, Fun K "write_page" "Device.write_page" s_Device_write_page f fd ∧ PySem.W.findIn K (.ref c.Device) "write_page" = some (some (.ref f)) ∧ PySem.W.isFn K (.ref f) = true
  f_Device_sync_pages : ∃ f fd, Fun K "sync_pages" "Device.sync_pages" s_Device_sync_pages f fd ∧ PySem.W.findIn K (.ref c.Device) "sync_pages" = some (some (.ref f)) ∧ PySem.W.isFn K (.ref f) = true
  f_Device_append : ∃ f fd, Fun K "append" "Device.append" s_Device_append f fd ∧ PySem.W.findIn K (.ref c.Device) "append" = some (some (.ref f)) ∧ PySem.W.isFn K (.ref f) = true
  f_Device_clear : ∃ f fd, Fun K "clear" "Device.clear" s_Device_clear f fd ∧ PySem.W.findIn K (.ref c.Device) "clear" = some (some (.ref f)) ∧ PySem.W.isFn K (.ref f) = true
  f_Device_sync_log : ∃ f fd, Fun K "sync_log" "Device.sync_log" s_Device_sync_log f fd ∧ PySem.W.findIn K (.ref c.Device) "sync_log" = some (some (.ref f)) ∧ PySem.W.isFn K (.ref f) = true
  f_Device_durable_page : ∃ f fd, Fun K "durable_page" "Device.durable_page" s_Device_durable_page f fd ∧ PySem.W.findIn K (.ref c.Device) "durable_page" = some (some (.ref f)) ∧ PySem.W.isFn K (.ref f) = true
  f_Device_page : ∃ f fd, Fun K "page" "Device.page" s_Device_page f fd ∧ PySem.W.findIn K (.ref c.Device) "page" = some (some (.ref f)) ∧ PySem.W.isFn K (.ref f) = true
  f_Device_log : ∃ f fd, Fun K "log" "Device.log" s_Device_log f fd ∧ PySem.W.findIn K (.ref c.Device) "log" = some (some (.ref f)) ∧ PySem.W.isFn K (.ref f) = true
  f_Device_limit : ∃ f fd, Fun K "limit" "Device.limit" s_Device_limit f fd ∧ PySem.W.findIn K (.ref c.Device) "limit" = some (some (.ref f)) ∧ PySem.W.isFn K (.ref f) = true
  f_Device_crash : ∃ f fd, Fun K "crash" "Device.crash" s_Device_crash f fd ∧ PySem.W.findIn K (.ref c.Device) "crash" = some (some (.ref f)) ∧ PySem.W.isFn K (.ref f) = true
  f_Device_steps : ∃ f fd, Fun K "steps" "Device.steps" s_Device_steps f fd ∧ PySem.W.findIn K (.ref c.Device) "steps" = some (some (.ref f)) ∧ PySem.W.isFn K (.ref f) = true
  f_Device_pending : ∃ f fd, Fun K "pending" "Device.pending" s_Device_pending f fd ∧ PySem.W.findIn K (.ref c.Device) "pending" = some (some (.ref f)) ∧ PySem.W.isFn K (.ref f) = true
  f_write_number : ∃ f fd, Fun K "write_number" "write_number" s_write_number f fd ∧ mg "write_number" = some (.ref f)
  f_read_number : ∃ f fd, Fun K "read_number" "read_number" s_read_number f fd ∧ mg "read_number" = some (.ref f)
  f_write_group : ∃ f fd, Fun K "write_group" "write_group" s_write_group f fd ∧ mg "write_group" = some (.ref f)
  f_read_groups : ∃ f fd, Fun K "read_groups" "read_groups" s_read_groups f fd ∧ mg "read_groups" = some (.ref f)
  f_Pager___init__ : ∃ f fd, Fun K "__init__" "Pager.__init__" s_Pager___init__ f fd ∧ PySem.W.findIn K (.ref c.Pager) "__init__" = some (some (.ref f)) ∧ PySem.W.isFn K (.ref f) = true
  f_Pager_count_head : ∃ f fd, Fun K "count_head" "Pager.count_head" s_Pager_count_head f fd ∧ PySem.W.findIn K (.ref c.Pager) "count_head" = some (some (.ref f)) ∧ PySem.W.isFn K (.ref f) = true
  f_Pager_read : ∃ f fd, Fun K "read" "Pager.read" s_Pager_read f fd ∧ PySem.W.findIn K (.ref c.Pager) "read" = some (some (.ref f)) ∧ PySem.W.isFn K (.ref f) = true
  f_Pager_write : ∃ f fd, Fun K "write" "Pager.write" s_Pager_write f fd ∧ PySem.W.findIn K (.ref c.Pager) "write" = some (some (.ref f)) ∧ PySem.W.isFn K (.ref f) = true
  f_Pager_field : ∃ f fd, Fun K "field" "Pager.field" s_Pager_field f fd ∧ PySem.W.findIn K (.ref c.Pager) "field" = some (some (.ref f)) ∧ PySem.W.isFn K (.ref f) = true
  f_Pager_set_field : ∃ f fd, Fun K "set_field" "Pager.set_field" s_Pager_set_field f fd ∧ PySem.W.findIn K (.ref c.Pager) "set_field" = some (some (.ref f)) ∧ PySem.W.isFn K (.ref f) = true
  f_Pager_allocate : ∃ f fd, Fun K "allocate" "Pager.allocate" s_Pager_allocate f fd ∧ PySem.W.findIn K (.ref c.Pager) "allocate" = some (some (.ref f)) ∧ PySem.W.isFn K (.ref f) = true
  f_Pager_release : ∃ f fd, Fun K "release" "Pager.release" s_Pager_release f fd ∧ PySem.W.findIn K (.ref c.Pager) "release" = some (some (.ref f)) ∧ PySem.W.isFn K (.ref f) = true
  f_Pager_commit : ∃ f fd, Fun K "commit" "Pager.commit" s_Pager_commit f fd ∧ PySem.W.findIn K (.ref c.Pager) "commit" = some (some (.ref f)) ∧ PySem.W.isFn K (.ref f) = true
  f_Pager_checkpoint : ∃ f fd, Fun K "checkpoint" "Pager.checkpoint" s_Pager_checkpoint f fd ∧ PySem.W.findIn K (.ref c.Pager) "checkpoint" = some (some (.ref f)) ∧ PySem.W.isFn K (.ref f) = true
  f_Pager_rollback : ∃ f fd, Fun K "rollback" "Pager.rollback" s_Pager_rollback f fd ∧ PySem.W.findIn K (.ref c.Pager) "rollback" = some (some (.ref f)) ∧ PySem.W.isFn K (.ref f) = true
  f__law_draw : ∃ f fd, Fun K "_law_draw" "_law_draw" s__law_draw f fd ∧ mg "_law_draw" = some (.ref f)
  f__law_bytes : ∃ f fd, Fun K "_law_bytes" "_law_bytes" s__law_bytes f fd ∧ mg "_law_bytes" = some (.ref f)
  f__law_new : ∃ f fd, Fun K "_law_new" "_law_new" s__law_new f fd ∧ mg "_law_new" = some (.ref f)
  f__law_page : ∃ f fd, Fun K "_law_page" "_law_page" s__law_page f fd ∧ mg "_law_page" = some (.ref f)
  f__law_write : ∃ f fd, Fun K "_law_write" "_law_write" s__law_write f fd ∧ mg "_law_write" = some (.ref f)
  f__law_number : ∃ f fd, Fun K "_law_number" "_law_number" s__law_number f fd ∧ mg "_law_number" = some (.ref f)
  f__law_set : ∃ f fd, Fun K "_law_set" "_law_set" s__law_set f fd ∧ mg "_law_set" = some (.ref f)
  f__law_counted : ∃ f fd, Fun K "_law_counted" "_law_counted" s__law_counted f fd ∧ mg "_law_counted" = some (.ref f)
  f__law_committed : ∃ f fd, Fun K "_law_committed" "_law_committed" s__law_committed f fd ∧ mg "_law_committed" = some (.ref f)
  f__law_checked : ∃ f fd, Fun K "_law_checked" "_law_checked" s__law_checked f fd ∧ mg "_law_checked" = some (.ref f)
  f__law_taken : ∃ f fd, Fun K "_law_taken" "_law_taken" s__law_taken f fd ∧ mg "_law_taken" = some (.ref f)
  f__law_change : ∃ f fd, Fun K "_law_change" "_law_change" s__law_change f fd ∧ mg "_law_change" = some (.ref f)
  f__law_same : ∃ f fd, Fun K "_law_same" "_law_same" s__law_same f fd ∧ mg "_law_same" = some (.ref f)
  f_law : ∃ f fd, Fun K "law" "law" s_law f fd ∧ mg "law" = some (.ref f)
  m_PAGE_SIZE : ∃ t, mg "PAGE_SIZE" = some (.int 256 t)
  m_HALF : ∃ t, mg "HALF" = some (.int 128 t)
  m_NUMBER_SIZE : ∃ t, mg "NUMBER_SIZE" = some (.int 4 t)
  m_FIELD_SIZE : ∃ t, mg "FIELD_SIZE" = some (.int 4 t)
  m_PAGES : ∃ t, mg "PAGES" = some (.int 6 t)
  m_FREE : ∃ t, mg "FREE" = some (.int 7 t)
  z_ValueError : mg "ValueError" = none
  z_int : mg "int" = none
  z_len : mg "len" = none
  z_list : mg "list" = none
  z_min : mg "min" = none
  z_range : mg "range" = none
  z_reversed : mg "reversed" = none
  z_sorted : mg "sorted" = none
  ex_VaultError : ExT K mg "VaultError" c.VaultError
  ex_PowerCut : ExT K mg "PowerCut" c.PowerCut
  cl_Device : Cls K c.Device
  mk_Device : PySem.W.makesIn K c.Device = true ∧ PySem.W.keepIn K (.ref c.Device) = true
  mg_Device : mg "Device" = some (.ref c.Device)
  n_Device_pages : NoAttr K c.Device "pages"
  n_Device_page_writes : NoAttr K c.Device "page_writes"
  n_Device_durable_log : NoAttr K c.Device "durable_log"
  n_Device_log_steps : NoAttr K c.Device "log_steps"
  n_Device_done : NoAttr K c.Device "done"
  n_Device_most : NoAttr K c.Device "most"
  cl_Pager : Cls K c.Pager
  mk_Pager : PySem.W.makesIn K c.Pager = true ∧ PySem.W.keepIn K (.ref c.Pager) = true
  mg_Pager : mg "Pager" = some (.ref c.Pager)
  n_Pager_device : NoAttr K c.Pager "device"
  n_Pager_committed : NoAttr K c.Pager "committed"
  n_Pager_dirty : NoAttr K c.Pager "dirty"
/-! ### the reading's steps -/
local macro_rules | `(tactic| walk_at "nf") => `(tactic| first | exact id | assumption | exact Ne.symm (by assumption) | exact ne_of (by assumption) (by assumption) (by intro z; cases z) | exact ne_of_none (by assumption) (by assumption) | exact Ne.symm (ne_of_none (by assumption) (by assumption)))
local macro_rules | `(tactic| walk_at "hp") => `(tactic| first | assumption | exact upd_same | (refine' Kp.get (by assumption) ?hpa ?hpn; (case hpa => walk_at "hp"); (case hpn => walk_at "nf")) | (refine' Kp.tup (by assumption) ?hpa; (case hpa => walk_at "hp")))
local macro_rules | `(tactic| walk_at "sq") => `(tactic| first | assumption | exact SqL.of (by assumption) | exact SqT.of (by assumption) | exact Sc.sq (by assumption) | (refine' SqL.of ?hps; (case hps => walk_at "hp")) | (refine' SqT.of ?hps; (case hps => walk_at "hp")))
local macro_rules | `(tactic| walk_at "rd1") => `(tactic| (first
  | ((with_reducible refine' x_var ?vv ?_); (case vv => exact rfl))
  | ((with_reducible refine' x_ixL ?h1 ?h2 ?_); (case h1 => walk_at "sq"); (case h2 => (first | exact rfl | assumption)))
  | ((with_reducible refine' x_setL ?h1 ?h2 ?_); (case h1 => walk_at "hp"); (case h2 => (first | exact rfl | assumption)))
  | ((with_reducible refine' x_ixT ?h1 ?h2 ?_); (case h1 => walk_at "sq"); (case h2 => (first | exact rfl | assumption)))
  | ((with_reducible refine' x_lenL ?h1 ?_); (case h1 => walk_at "sq"))
  | ((with_reducible refine' x_lenT ?h1 ?_); (case h1 => walk_at "sq"))
  | ((with_reducible refine' x_I ?h1 ?_); (case h1 => (first | exact .inr ⟨by decide, by decide⟩ | exact .inl ⟨by decide, by decide⟩ | omega | exact ⟨by decide, by decide, by decide⟩ | exact fdiv_ok (by omega) (by omega))))
  | ((with_reducible refine' x_rg1 ?h1 ?h2 ?_); (case h1 => omega); (case h2 => omega))
  | ((with_reducible refine' x_rg2 ?h1 ?_); (case h1 => omega))
  | ((with_reducible refine' x_ty ?h1 ?_); (case h1 => walk_at "hp"))
  | ((with_reducible refine' x_gt ?h1 ?h2 ?_); (case h1 => walk_at "sq"); (case h2 => exact rfl))
  | ((with_reducible refine' x_fld ?h1 ?h2 ?h3 ?h4 ?_); (case h1 => walk_at "hp"); (case h2 => assumption); (case h3 => assumption); (case h4 => walk_at "lk"))
  | ((with_reducible refine' x_sfl ?h1 ?h2 ?h3 ?h4 ?h5 ?_); (case h1 => walk_at "hp"); (case h2 => assumption); (case h3 => assumption); (case h4 => walk_at "ln"); (case h5 => walk_at "pt"))
  | ((with_reducible refine' x_augI ?h1 ?h2 ?h3 ?h4 ?_); (case h1 => walk_at "hp"); (case h2 => assumption); (case h3 => assumption); (case h4 => walk_at "lk"))
  | ((with_reducible refine' x_augP ?h1 ?h2 ?h3 ?_); (case h1 => walk_at "hp"); (case h2 => walk_at "ln"); (case h3 => walk_at "pt"))
  | ((with_reducible refine' x_mt ?h1 ?h2 ?_); (case h1 => walk_at "hp"); (case h2 => walk_at "no"))
  | ((with_reducible refine' x_dgS ?h1 ?h2 ?_); (case h1 => refine' Or.inl ?h3; walk_at "hp"); (case h2 => walk_at "rv"))
  | ((with_reducible refine' x_dpS ?h1 ?h2 ?h3 ?_); (case h1 => walk_at "hp"); (case h2 => walk_at "rp"); (case h3 => exact Nat.le_of_ble_eq_true rfl))
  | ((with_reducible refine' x_g2a ?h1 ?_); (case h1 => refine' Or.inl ?h3; walk_at "hp"))
  | ((with_reducible refine' x_g2b ?h1 ?_); (case h1 => refine' Or.inl ?h3; walk_at "hp"))
  | ((with_reducible refine' x_diI ?h1 ?_); (case h1 => refine' Or.inl ?h3; walk_at "hp"))
  | ((with_reducible refine' x_dnI ?h1 ?_); (case h1 => refine' Or.inl ?h3; walk_at "hp"))
  | ((with_reducible refine' x_rev ?h1 ?_); (case h1 => walk_at "sq"))
  | ((with_reducible refine' x_iL1 ?h1 ?_); (case h1 => walk_at "sq"))
  | ((with_reducible refine' x_iT1 ?h1 ?_); (case h1 => walk_at "sq"))
  | with_reducible first
  | refine x_seq ?_ | refine x_asg ?_ | refine x_ifS ?_ | refine x_tst ?_ | refine x_op ?_ | refine x_c ?_ | refine x_I0 ?_ | refine x_bl ?_
  | refine x_cb ?_ | refine x_cons ?_ | refine x_nil ?_ | refine x_ret ?_ | refine x_retN ?_ | refine x_drop ?_ | refine x_next ?_
  | refine x_eqI ?_ | refine x_neI ?_ | refine x_eqS ?_ | refine x_neS ?_ | refine x_eqB ?_ | refine x_neB ?_ | refine x_intI ?_ | refine x_intB ?_ | refine x_and ?_ | refine x_or ?_ | refine x_not ?_
  | refine x_andV ?_ | refine x_orV ?_ | refine x_notV ?_ | refine x_ifE ?_ | refine x_ch ?_ | refine x_tup ?_ | refine x_lst ?_ | refine x_callS ?_ | refine x_sub ?_ | refine x_un ?_ | refine x_neg ?_ | refine x_tB ?_ | refine x_tfld ?_ | refine x_tsf ?_ | refine x_aug ?_ | refine x_radd ?_ | refine x_rsub ?_ | refine x_tmt ?_ | refine x_mk ?_ | refine x_tdg ?_ | refine x_tdi ?_ | refine x_tdn ?_ | refine x_tg2 ?_ | refine x_tdp ?_ | refine x_irev ?_ | refine x_isNi ?_ | refine x_isNr ?_ | refine x_isNn ?_ | refine x_notNi ?_ | refine x_notNr ?_ | refine x_notNn ?_ | refine x_bm ?_ | refine x_bm0 ?_ | refine x_gc ?_ | refine x_g0 ?_ | refine x_and255 ?_ | refine x_ifNT ?_ | refine x_ifNF ?_ | refine x_yes ?_ | refine x_isiI ?_ | refine x_isiB ?_ | refine x_ifTT ?_ | refine x_ifFF ?_ | refine x_gn ?_ | refine x_for ?_ | refine x_lc ?_ | refine x_rng1 ?_ | refine x_rng2 ?_ | refine x_iL ?_ | refine x_iT ?_ | refine x_abs ?_ | refine x_max2 ?_ | refine x_min2 ?_ | refine x_sl ?_ | refine x_part ?_ | refine x_part1 ?_ | refine x_nopart ?_))
local macro_rules | `(tactic| walk_at "rd") => `(tactic| repeat walk_at "rd1")
local macro_rules | `(tactic| walk_at "cx") => `(tactic| dsimp only [cxOf, Cx.nox, Cx.wish, L2.start, List.map_cons, List.map_nil, List.length_cons, List.length_nil, List.reduceReplicate, List.cons_append, List.nil_append, Nat.reduceAdd, Nat.reduceSub])
/-! ### more steps -/
section
variable {K : PySem.W.Frag} {σ : L2.St} {H : Hp} {Q : VK} {D : Ends} {tc : TT} {tb : TS} {a : Addr}
theorem x_wh (Pv : Nat → L2.St → Hp → Prop) (h0 : ∃ m, Pv m σ H) (hs : ∀ m σ H, Pv m σ H → tc σ H fun b H1 => if b = true then ∃ N : L2.St → Hp → Prop, (∀ σ' H', N σ' H' → ∃ m', m' < m ∧ Pv m' σ' H') ∧ tb { nx := N, rt := D.rt, bk := D.nx, ct := N } σ H1 else D.nx σ H1) : tWhile tc tb D σ H :=
  ⟨Pv, h0, hs⟩
theorem x_augv {ti : TIp} {te : TE} {i : Nat} {x : V} (e : σ[i]? = some (some x)) (h : te σ H fun y H1 => ti x y H1 fun z H2 => D.nx (σ.set i (some z)) H2) : tAug i te ti D σ H := ⟨x, e, h⟩
theorem x_ipI {f : Int → Int → Int} {i j : Int} (h : Q (.int (f i j)) H) : ipI f (.int i) (.int j) H Q := ⟨i, j, rfl, rfl, h⟩
theorem x_isiR {T S : String} {b : Bool} (ht : TyX K H (.ref a) (.type T)) (hk : PySem.W.kitOne K (.type T) (.type S) = some b) (q : Q (.bl b) H) : rIsi K [.ref a, .ty S] H Q := ⟨_, _, _, _, b, rfl, .ty S, ht, hk, q⟩
theorem if_dtt {p A B : Prop} [Decidable p] (n : p) (h : A) : if decide p = true then A else B := by rw [if_pos (by simpa using n)]; exact h
theorem if_dff {p A B : Prop} [Decidable p] (n : ¬ p) (h : B) : if decide p = true then A else B := by rw [if_neg (by simpa using n)]; exact h
theorem x_cutN {D : Ends} {t u : TS} (h : t { D with nx := u D } σ H) : C8.tCut t u D σ H := ⟨u D, h, fun _ _ z => z⟩
end
/-- a comprehension whose list so far may tell of the heap: D the list's place -/
theorem wlcH {J : It} {G : Hp → Prop} {xs : List V} {g : TG} {tt : TT} {te : TE} {vs : List Nat} {σ : L2.St} {H0 : Hp} {Qd : Addr → Hp → Prop} (W : Wk J G xs) (F : Addr → Prop) (Pv : Addr → Nat → List V → Hp → Prop)
    (hF : ∀ b, F b → H0 b ≠ none) (hz : xs.length ≤ 100000) (hG : ∀ D i acc H', Pv D i acc H' → Kp F H0 H' → G H') (h0 : ∀ D, H0 D = none → Pv D 0 [] (upd H0 D (.lst []))) (hSt : ∀ D i acc H' H4, Kp (F1 D) H' H4 → Pv D i acc H' → Pv D i acc H4)
    (hs : ∀ D i x acc H' (R : V → Hp → Prop) (R0 : Hp → Prop), xs[i]? = some x → H0 D = none → H' D = some (.lst acc) → Pv D i acc H' → Kp F H0 H' → (∀ y H4, Kp F H' H4 → Pv D (i + 1) (acc ++ [y]) H4 → R y H4) → (∀ H4, Kp F H' H4 → Pv D (i + 1) acc H4 → R0 H4) →
      g x (wipe σ vs) H' fun σ2 H2 => wipe σ2 vs = wipe σ vs ∧ tt σ2 H2 fun b H3 => if b = true then te σ2 H3 R else R0 H3)
    (hd : ∀ D H' acc, H0 D = none → H' D = some (.lst acc) → Pv D xs.length acc H' → Kp F H0 H' → Qd D H') :
    ∀ D, H0 D = none → ∃ W : Nat → Nat → Hp → Prop, (∃ m, W 0 m (upd H0 D (.lst []))) ∧ ∀ i m H, W i m H →
      (J.stop i H ∧ Qd D H) ∨ (J.go i H ∧ ∃ Nx : Hp → Prop, (∀ H', Nx H' → ∃ m', m' < m ∧ W (i + 1) m' H') ∧ ∀ x H', J.yld i H x H' → g x (wipe σ vs) H' fun σ2 H2 => wipe σ2 vs = wipe σ vs ∧ tt σ2 H2 fun b H3 =>
        if b = true then te σ2 H3 fun y H4 => ∃ acc, H4 D = some (.lst acc) ∧ acc.length < sizeLine ∧ Nx (upd H4 D (.lst (acc ++ [y]))) else Nx H3) := by
  intro D hD
  have nFD : ¬ F D := fun z => hF D z hD
  refine ⟨fun i m H' => m = xs.length - i ∧ i ≤ xs.length ∧ ∃ acc, H' D = some (.lst acc) ∧ acc.length ≤ i ∧ Pv D i acc H' ∧ Kp F H0 H',
    ⟨_, rfl, Nat.zero_le _, [], upd_same, Nat.le_refl _, h0 D hD, (Kp.new hD).mono fun b z => z.elim⟩, ?_⟩
  rintro i m H ⟨rfl, hi, acc, hacc, hl, p, kp⟩
  by_cases hlt : i < xs.length
  · refine .inr ⟨W.go i H hlt (hG _ _ _ _ p kp), _, fun H' z => ⟨xs.length - (i + 1), by omega, z⟩, fun x H' y => ?_⟩
    obtain ⟨rfl, e⟩ := W.yld i H x H' hlt (hG _ _ _ _ p kp) y
    refine hs D i x acc _ _ _ e hD hacc p kp (fun y H4 k4 p4 => ?_) (fun H4 k4 p4 => ?_)
    · have h4 := k4.get hacc nFD
      refine ⟨acc, h4, Nat.lt_of_le_of_lt (Nat.le_trans hl (Nat.le_trans hi hz)) (by decide), rfl, hlt, acc ++ [y], upd_same, by rw [List.length_append, List.length_singleton]; omega, hSt D _ _ _ _ (Kp.put h4 id) p4, ?_⟩
      intro b o hb n
      rw [upd_ne (ne_of_none hb hD)]
      exact k4 b o (kp b o hb n) n
    · exact ⟨rfl, hlt, acc, k4.get hacc nFD, by omega, p4, fun b o hb n => k4 b o (kp b o hb n) n⟩
  · obtain rfl : i = xs.length := by omega
    exact .inl ⟨W.stop H (hG _ _ _ _ p kp), hd D H acc hD hacc p kp⟩
theorem pgt {α β : Type} {R : α → β → Prop} : ∀ {l : List α} {m : List β} {i : Nat} {x : α}, Paired R l m → l[i]? = some x → ∃ y, m[i]? = some y ∧ R x y
  | _, _, 0, _, .cons r _, e => by simp at e; subst e; exact ⟨_, rfl, r⟩
  | _, _, i + 1, _, .cons r t, e => by rw [List.getElem?_cons_succ] at e ⊢; exact pgt t e
  | _, _, _, _, .nil, e => by simp at e
theorem pgetr {α β : Type} {R : α → β → Prop} {l : List α} {m : List β} {i : Nat} {y : β} (h : Paired R l m) (e : m[i]? = some y) : ∃ x, l[i]? = some x ∧ R x y := by
  have hi : i < l.length := by rw [h.length]; exact (List.getElem?_eq_some_iff.mp e).1
  obtain ⟨z, ez, r⟩ := pgt h (List.getElem?_eq_getElem hi)
  rw [e] at ez; cases ez
  exact ⟨_, List.getElem?_eq_getElem hi, r⟩
/-! ### pairs of numbers and pages, groups of them, lists of groups -/
def PAt (O : Addr → Prop) (H : Hp) (v : V) (q : Int × List Int) : Prop := ∃ t l, v = .ref t ∧ H t = some (.tup [.int q.1, .ref l]) ∧ H l = some (.lst (q.2.map V.int)) ∧ O l
def GAt (O : Addr → Prop) (H : Hp) (v : V) (g : List (Int × List Int)) : Prop := ∃ a ws, v = .ref a ∧ H a = some (.lst ws) ∧ O a ∧ Paired (PAt O H) ws g
def GsAt (O : Addr → Prop) (H : Hp) (a : Addr) (gs : List (List (Int × List Int))) : Prop := ∃ vs, H a = some (.lst vs) ∧ O a ∧ Paired (GAt O H) vs gs
section
variable {O O' F : Addr → Prop} {H H' : Hp} {v : V} {q : Int × List Int} {g : List (Int × List Int)} {gs : List (List (Int × List Int))} {a : Addr}
theorem PAt.kp (s : Kp F H H') (n : ∀ b o, H b = some o → O b → ¬ F b) (h : PAt O H v q) : PAt O H' v q := by
  obtain ⟨t, l, e, ht, hl, o⟩ := h
  exact ⟨t, l, e, s.tup ht, s.get hl (n _ _ hl o), o⟩
theorem GAt.kp (s : Kp F H H') (n : ∀ b o, H b = some o → O b → ¬ F b) (h : GAt O H v g) : GAt O H' v g := by
  obtain ⟨a, ws, e, ha, o, p⟩ := h
  exact ⟨a, ws, e, s.get ha (n _ _ ha o), o, p.mono fun _ _ r => r.kp s n⟩
theorem GsAt.kp (s : Kp F H H') (n : ∀ b o, H b = some o → O b → ¬ F b) (h : GsAt O H a gs) : GsAt O H' a gs := by
  obtain ⟨vs, ha, o, p⟩ := h
  exact ⟨vs, s.get ha (n _ _ ha o), o, p.mono fun _ _ r => r.kp s n⟩
theorem PAt.own (n : ∀ b, (∃ o, H b = some o) → O b → O' b) (h : PAt O H v q) : PAt O' H v q := by
  obtain ⟨t, l, e, ht, hl, o⟩ := h
  exact ⟨t, l, e, ht, hl, n _ ⟨_, hl⟩ o⟩
theorem GAt.own (n : ∀ b, (∃ o, H b = some o) → O b → O' b) (h : GAt O H v g) : GAt O' H v g := by
  obtain ⟨a, ws, e, ha, o, p⟩ := h
  exact ⟨a, ws, e, ha, n _ ⟨_, ha⟩ o, p.mono fun _ _ r => r.own n⟩
def pD (q : Int × List Int) : PyData := .tuple [.int q.1, .list (q.2.map PyData.int)]
def gD (g : List (Int × List Int)) : PyData := .list (g.map pD)
def gsD (gs : List (List (Int × List Int))) : PyData := .list (gs.map gD)
theorem dp_all {K : PySem.W.Frag} {α : Type} {R : V → α → Prop} {f : α → PyData} (hf : ∀ v x, R v x → Dp K H v (f x)) : ∀ {vs : List V} {xs : List α}, Paired R vs xs → DpAll K H vs (xs.map f)
  | _, _, .nil => .nil
  | _, _, .cons r t => .cons (hf _ _ r) (dp_all hf t)
theorem PAt.dp {K : PySem.W.Frag} (h : PAt O H v q) : Dp K H v (pD q) := by
  obtain ⟨t, l, rfl, ht, hl, o⟩ := h
  exact .tup (SqT.of ht) (.cons (.int _) (.cons (.lst (SqL.of hl) (dp_ints _)) .nil))
theorem GAt.dp {K : PySem.W.Frag} (h : GAt O H v g) : Dp K H v (gD g) := by
  obtain ⟨a, ws, rfl, ha, o, p⟩ := h
  exact .lst (SqL.of ha) (dp_all (fun _ _ r => r.dp) p)
theorem GsAt.dp {K : PySem.W.Frag} (h : GsAt O H a gs) : Dp K H (.ref a) (gsD gs) := by
  obtain ⟨vs, ha, o, p⟩ := h
  exact .lst (SqL.of ha) (dp_all (fun _ _ r => r.dp) p)
theorem pD_sh (q : Int × List Int) : Sh 2 (pD q) := Sh.tuple fun d hd => by
  rcases List.mem_cons.mp hd with h | h
  · rw [h]; exact ⟨(Sh.int _).1, Nat.le_trans (Sh.int _).2.1 (by decide), (Sh.int _).2.2⟩
  · rw [List.mem_singleton.mp h]; exact Sh.list (sh_ints _)
theorem gD_sh (g : List (Int × List Int)) : Sh 3 (gD g) := Sh.list fun d hd => by
  obtain ⟨q, _, rfl⟩ := List.mem_map.mp hd
  exact pD_sh q
theorem gsD_sh (gs : List (List (Int × List Int))) : Sh 4 (gsD gs) := Sh.list fun d hd => by
  obtain ⟨q, _, rfl⟩ := List.mem_map.mp hd
  exact gD_sh q
theorem eqv_refl {d : PyData} (h : nb d = true) : PyData.eqv d d = true := (eqv_nb d d h h).mpr rfl
end
section
variable {X : Cx} {o lo hi : Expr} {to tl tu : TE} {p2 pos : Pos}
/-- xs[a:c] = ys of another list -/
def rSlS (v o x y : V) (H : Hp) (R : Hp → Prop) : Prop := ∃ (l b : Addr) (xs ys : List V) (a c : Int), v = .ref b ∧ o = .ref l ∧ x = .int a ∧ y = .int c ∧ H l = some (.lst xs) ∧ H b = some (.lst ys) ∧ l ≠ b ∧ 0 ≤ a ∧ a ≤ c ∧ c ≤ xs.length ∧ xs.length + ys.length ≤ sizeLine ∧ R (upd H l (.lst (xs.take a.toNat ++ ys ++ xs.drop c.toNat)))
def gSlS (to tl tu : TE) : TG := fun v σ H Q => to σ H fun o H1 => tl σ H1 fun x H2 => tu σ H2 fun y H3 => rSlS v o x y H3 (Q σ)
theorem pg_slS (ho : PE X o to) (hl : PE X lo tl) (hu : PE X hi tu) : PG X (.Subscript o (.Slice (some lo) (some hi) none p2) pos) (gSlS to tl tu) := by
  have ha : ∀ v, assign (.Subscript o (.Slice (some lo) (some hi) none p2) pos) X.env v = (do
      let ov ← holding [v] (eval o X.env)
      let iv ← holding [v, ov] (eval (.Slice (some lo) (some hi) none p2) X.env)
      standAt pos
      holding [v, ov, iv] (setItem ov iv v)
      release [iv, v, ov] []) := fun _ => rfl
  refine ⟨fun pins s σ H v u Q I r h => ?_⟩
  rw [ha]
  refine wpAny_bind (wpAny_holding (thn (ho.run pins s σ H _ I h) fun ov s1 ⟨x, H1, I1, r1, q1⟩ => ?_))
  refine wpAny_bind (wpAny_holding (wpAny_Slice ?_))
  rw [evalPart_some]
  refine thn (hl.run pins s1 σ H1 _ I1 q1) fun vl s2 ⟨y, H2, I2, r2, q2⟩ => ?_
  rw [evalPart_some]
  refine thn (hu.run pins s2 σ H2 _ I2 q2) fun vu s3 ⟨z, H3, I3, r3, q3⟩ => ?_
  rw [evalPart_none]
  refine wpAny_pure ?_
  obtain ⟨l, b, xs, ys, a, d, e1, e2, e3, e4, hl1, hb1, ne, h0, h1, h2, hz, q⟩ := q3
  subst e1; subst e2; subst e3; subst e4
  cases (show u = Value.ref _ from r)
  cases (show ov = Value.ref _ from r1)
  have I4 : Inv X pins σ H3 { s3 with heap := s3.heap.push { cls := .type "slice", data := .fields #[vl, vu, .none] } } := I3.kept (t' := s3.toks) fun b ob q => Heap.get?_push_of_some _ q
  refine wpAny_bind (wpAny_standAt (wpAny_bind (wpAny_holding (set_slice I4 hl1 hb1 ne (Heap.IsSliceOf.new ..) r2 r3 h0 h1 h2 hz fun s' I' => ?_))))
  exact wpAny_release ⟨σ, _, I', q⟩
theorem x_slS {H : Hp} {l b : Addr} {xs ys : List V} {a c : Int} {R : Hp → Prop} (h1 : H l = some (.lst xs)) (h2 : H b = some (.lst ys)) (n : l ≠ b) (h0 : 0 ≤ a) (h3 : a ≤ c) (h4 : c ≤ xs.length) (hz : xs.length + ys.length ≤ sizeLine)
    (q : ∀ H1, H1 l = some (.lst (xs.take a.toNat ++ ys ++ xs.drop c.toNat)) → Kp (F1 l) H H1 → R H1) : rSlS (.ref b) (.ref l) (.int a) (.int c) H R :=
  ⟨l, b, xs, ys, a, c, rfl, rfl, rfl, rfl, h1, h2, n, h0, h3, h4, hz, q _ upd_same (Kp.put h1 id)⟩
end
/-- sorted(d) of a dict of ints, dict(d), list.pop(i) -/
def rSrtD : List V → Hp → VK → Prop := fun xs H Q => ∃ (a : Addr) (kvs : List (Key × V)) (ks : List Int), xs = [.ref a] ∧ Rd H a (.dK kvs) ∧ kvs.map (·.1) = ks.map Sum.inl ∧ ks.length < 64 ∧ ∀ (ys : List Int) (p : Addr), ys.Perm ks → ys.Pairwise (· ≤ ·) → H p = none → Q (.ref p) (upd H p (.lst (ys.map V.int)))
theorem c_sortedDI {X : Cx} (hc : X.calm = true) : CallR X (.builtin "sorted") rSrtD := call_sortedDI hc
theorem x_srtD {H : Hp} {Q : VK} {a : Addr} {kvs : List (Key × V)} {ks : List Int} (h : H a = some (.dK kvs)) (e : kvs.map (·.1) = ks.map Sum.inl) (z : ks.length < 64) (q : ∀ (ys : List Int) (p : Addr) (H1 : Hp), ys.Perm ks → ys.Pairwise (· ≤ ·) → H p = none → Kp F0 H H1 → H1 p = some (.lst (ys.map V.int)) → Q (.ref p) H1) : rSrtD [.ref a] H Q :=
  ⟨a, kvs, ks, rfl, .inl h, e, z, fun ys p hy hs hp => q ys p _ hy hs hp (Kp.new hp) upd_same⟩
def rDictD : List V → Hp → VK → Prop := fun xs H Q => ∃ (a : Addr) (kvs : List (Key × V)), xs = [.ref a] ∧ Rd H a (.dK kvs) ∧ ∀ p, H p = none → Q (.ref p) (upd H p (.dK kvs))
theorem c_dictD {X : Cx} : CallR X (.type "dict") rDictD := call_dictD
theorem x_dictD {H : Hp} {Q : VK} {a : Addr} {kvs : List (Key × V)} (h : H a = some (.dK kvs)) (q : ∀ p H1, H p = none → Kp F0 H H1 → H1 p = some (.dK kvs) → Q (.ref p) H1) : rDictD [.ref a] H Q :=
  ⟨a, kvs, rfl, .inl h, fun p hp => q p _ hp (Kp.new hp) upd_same⟩
theorem if_so {α : Type} {x : α} {A B : Prop} (h : A) : if (some x).isSome = true then A else B := by simpa using h
theorem if_no {α : Type} {A B : Prop} (h : B) : if (none : Option α).isSome = true then A else B := by simpa using h
theorem x_gsl {to tl tu : TE} {v : V} {σ : L2.St} {H : Hp} {R : L2.St → Hp → Prop} (h : to σ H fun o H1 => tl σ H1 fun x H2 => tu σ H2 fun y H3 => rSlS v o x y H3 (R σ)) : gSlS to tl tu v σ H R := h
/-! ### numbers and points as bytes, in plain Lean -/
/-- the last w bytes of a number, most significant first -/
def wn : Nat → Int → List Int
  | 0, _ => []
  | w + 1, n => wn w (n / 256) ++ [n % 256]
def rn (l : List Int) : Int := l.foldl (fun a b => a * 256 + b) 0
def wp (p : List Int) : List Int := p.flatMap fun c => wn 2 (c + 32768)
def rp (l : List Int) (place : Nat) (d : Nat) : List Int := (List.range d).map fun k => rn ((l.drop (place + 2 * k)).take 2) - 32768
/-- a list of bytes -/
def Byt (l : List Int) : Prop := ∀ x ∈ l, 0 ≤ x ∧ x < 256
theorem wn_len : ∀ (w : Nat) (n : Int), (wn w n).length = w
  | 0, _ => rfl
  | w + 1, n => by show (wn w (n / 256) ++ [n % 256]).length = w + 1; rw [List.length_append, wn_len w]; rfl
theorem wn_byt : ∀ (w : Nat) (n : Int), Byt (wn w n)
  | 0, _, x, h => by cases h
  | w + 1, n, x, h => by
    rcases List.mem_append.mp (show x ∈ wn w (n / 256) ++ [n % 256] from h) with h | h
    · exact wn_byt w _ x h
    · rw [List.mem_singleton.mp h]; omega
theorem pow256 (k : Nat) : (0 : Int) < 256 ^ k := Int.pow_pos (by decide)
theorem wn_cons : ∀ (w : Nat) (n : Int), wn (w + 1) n = (n / 256 ^ w % 256) :: wn w n
  | 0, n => by show [] ++ [n % 256] = _; simp [wn]
  | w + 1, n => by
    show wn (w + 1) (n / 256) ++ [n % 256] = _
    rw [wn_cons w (n / 256)]
    show (n / 256 / 256 ^ w % 256) :: (wn w (n / 256) ++ [n % 256]) = (n / 256 ^ (w + 1) % 256) :: wn (w + 1) n
    rw [Int.ediv_ediv_of_nonneg (by decide), Int.mul_comm, ← Int.pow_succ]; rfl
theorem rn_app (l : List Int) (x : Int) : rn (l ++ [x]) = rn l * 256 + x := by unfold rn; rw [List.foldl_append]; rfl
theorem rn_wn : ∀ (w : Nat) (n : Int), 0 ≤ n → n < 256 ^ w → rn (wn w n) = n
  | 0, n, h0, h1 => by rw [Int.pow_zero] at h1; show (0 : Int) = n; omega
  | w + 1, n, h0, h1 => by
    show rn (wn w (n / 256) ++ [n % 256]) = n
    rw [Int.pow_succ] at h1
    rw [rn_app, rn_wn w (n / 256) (by omega) (by omega)]
    omega
theorem rn_nn {l : List Int} (h : Byt l) : 0 ≤ rn l := by
  have q : ∀ (l : List Int) (a : Int), 0 ≤ a → Byt l → 0 ≤ l.foldl (fun a b => a * 256 + b) a := by
    intro l
    induction l with
    | nil => intro a h _; exact h
    | cons x l ih =>
      intro a h0 h
      have := h x (by simp)
      exact ih _ (show 0 ≤ a * 256 + x by omega) fun y hy => h y (List.mem_cons_of_mem _ hy)
  exact q l 0 (by decide) h
theorem wn_get {w : Nat} {n : Int} {k : Nat} (h : k < w) : (wn w n)[k]? = some (n / 256 ^ (w - 1 - k) % 256) := by
  induction w generalizing n k with
  | zero => omega
  | succ w ih =>
    rw [wn_cons]
    cases k with
    | zero => simp
    | succ k =>
      rw [List.getElem?_cons_succ, ih (by omega)]
      congr 4; omega
theorem pow_256 (k : Nat) : (2 : Int) ^ (8 * k) = 256 ^ k := by rw [Int.pow_mul]; rfl
theorem wp_app (p : List Int) (c : Int) : wp (p ++ [c]) = wp p ++ wn 2 (c + 32768) := by unfold wp; rw [List.flatMap_append]; simp
theorem wp_len (p : List Int) : (wp p).length = 2 * p.length := by
  induction p with
  | nil => rfl
  | cons c p ih =>
    show (wn 2 (c + 32768) ++ wp p).length = 2 * (p.length + 1)
    rw [List.length_append, ih, wn_len]; omega
theorem wp_byt (p : List Int) : Byt (wp p) := by
  intro x h
  obtain ⟨c, _, hx⟩ := List.mem_flatMap.mp h
  exact wn_byt _ _ x hx
/-- coordinates in their range -/
def Crd (p : List Int) : Prop := ∀ x ∈ p, -32768 ≤ x ∧ x ≤ 32767
theorem wp_drop (p : List Int) : ∀ k : Nat, (wp p).drop (2 * k) = wp (p.drop k)
  | 0 => by simp
  | k + 1 => by
    cases p with
    | nil => simp [wp]
    | cons c p =>
      show (wn 2 (c + 32768) ++ wp p).drop (2 * (k + 1)) = wp (p.drop k)
      rw [← wp_drop p k, List.drop_append, wn_len]
      rw [List.drop_eq_nil_of_le (by rw [wn_len]; omega), List.nil_append]
      congr 1
theorem rp_wp {p : List Int} (h : Crd p) (a b : List Int) : rp (a ++ wp p ++ b) a.length p.length = p := by
  unfold rp
  apply List.ext_getElem
  · simp
  · intro k h1 h2
    simp only [List.getElem_map, List.getElem_range]
    have e : (a ++ wp p ++ b).drop (a.length + 2 * k) = wn 2 (p[k] + 32768) ++ (wp (p.drop (k + 1)) ++ b) := by
      rw [List.append_assoc, List.drop_append, List.drop_eq_nil_of_le (by omega), List.nil_append, Nat.add_sub_cancel_left, List.drop_append, wp_drop]
      rw [show 2 * k - (wp p).length = 0 by rw [wp_len]; omega, List.drop_zero, List.drop_eq_getElem_cons h2]
      show wn 2 (p[k] + 32768) ++ wp (p.drop (k + 1)) ++ b = _
      rw [List.append_assoc]
    have hc := h p[k] (by simp)
    rw [e, List.take_append_of_le_length (by rw [wn_len]; omega), List.take_of_length_le (Nat.le_of_eq (wn_len _ _)), rn_wn _ _ (by omega) (by omega)]
    omega
/-! ### groups, in plain Lean -/
def chunk (q : Int × List Int) : List Int := wn 4 q.1 ++ q.2
def wg (g : List (Int × List Int)) : List Int := wn 4 g.length ++ g.flatMap chunk
structure Good (g : List (Int × List Int)) : Prop where
  n : g.length ≤ 60
  q : ∀ q ∈ g, 0 ≤ q.1 ∧ q.1 < 256 ^ 4 ∧ q.2.length = 256
theorem chunk_len {q : Int × List Int} (h : q.2.length = 256) : (chunk q).length = 260 := by unfold chunk; rw [List.length_append, wn_len, h]
theorem fm_len {α : Type} {f : α → List Int} {n : Nat} : ∀ {g : List α}, (∀ q ∈ g, (f q).length = n) → (g.flatMap f).length = n * g.length
  | [], _ => rfl
  | q :: g, h => by
    rw [List.flatMap_cons, List.length_append, h q (by simp), fm_len (g := g) fun r hr => h r (List.mem_cons_of_mem _ hr), List.length_cons, Nat.mul_succ, Nat.add_comm]
theorem fm_drop {α : Type} {f : α → List Int} {n : Nat} : ∀ {g : List α} {k : Nat} {q : α}, (∀ q ∈ g, (f q).length = n) → g[k]? = some q → (g.flatMap f).drop (n * k) = f q ++ (g.drop (k + 1)).flatMap f
  | [], _, _, _, e => by simp at e
  | r :: g, 0, q, h, e => by
    simp only [List.getElem?_cons_zero, Option.some.injEq] at e
    subst e
    rw [Nat.mul_zero, List.drop_zero, List.flatMap_cons]; rfl
  | r :: g, k + 1, q, h, e => by
    rw [List.getElem?_cons_succ] at e
    rw [List.flatMap_cons, Nat.mul_succ, Nat.add_comm (n * k) n, ← List.drop_drop, List.drop_left' (h r (by simp)), fm_drop (g := g) (fun r hr => h r (List.mem_cons_of_mem _ hr)) e]; rfl
theorem wg_len {g : List (Int × List Int)} (h : Good g) : (wg g).length = 4 + 260 * g.length := by
  unfold wg
  rw [List.length_append, wn_len, fm_len fun q hq => chunk_len (h.q q hq).2.2]
/-- what is read at a group's beginning -/
theorem rd_count {A T ds : List Int} {g : List (Int × List Int)} (h : Good g) (e : ds = A ++ (wg g ++ T)) : rn ((ds.drop A.length).take 4) = g.length := by
  subst e
  rw [List.drop_left, wg, List.append_assoc, List.take_left' (wn_len 4 _)]
  exact rn_wn 4 _ (by omega) (by have := h.n; omega)
theorem rd_chunk {A T ds : List Int} {g : List (Int × List Int)} {k : Nat} {q : Int × List Int} (h : Good g) (e : ds = A ++ (wg g ++ T)) (hq : g[k]? = some q) :
    rn ((ds.drop (A.length + 4 + 260 * k)).take 4) = q.1 ∧ (ds.drop (A.length + 4 + 260 * k + 4)).take 256 = q.2 := by
  have hm := h.q q (List.mem_of_getElem? hq)
  have hd : ds.drop (A.length + 4 + 260 * k) = wn 4 q.1 ++ (q.2 ++ ((g.drop (k + 1)).flatMap chunk ++ T)) := by
    subst e
    rw [Nat.add_assoc, ← List.drop_drop, List.drop_left, wg, List.append_assoc, ← List.drop_drop, List.drop_left' (wn_len 4 _), List.drop_append_of_le_length, fm_drop (fun q hq => chunk_len (h.q q hq).2.2) hq]
    · unfold chunk; simp only [List.append_assoc]
    · rw [fm_len fun q hq => chunk_len (h.q q hq).2.2]
      have := (List.getElem?_eq_some_iff.mp hq).1
      omega
  constructor
  · rw [hd, List.take_left' (wn_len 4 _)]
    exact rn_wn 4 _ hm.1 hm.2.1
  · rw [← List.drop_drop, hd, List.drop_left' (wn_len 4 _), List.take_left' hm.2.2]
/-- the beginning of a group that is cut off -/
theorem rd_part {A ds : List Int} {g : List (Int × List Int)} {j : Nat} (h : Good g) (e : ds = A ++ (wg g).take j) (hj : 4 ≤ j) : rn ((ds.drop A.length).take 4) = g.length := by
  subst e
  rw [List.drop_left, List.take_take, Nat.min_eq_left hj, wg, List.take_left' (wn_len 4 _)]
  exact rn_wn 4 _ (by omega) (by have := h.n; omega)
theorem wn4 {n : Int} (h0 : 0 ≤ n) (h1 : n < 256 ^ 4) : [n / 2 ^ 24, n / 2 ^ 16 % 256, n / 2 ^ 8 % 256, n % 256] = wn 4 n := by
  have e : wn 4 n = [n / 256 / 256 / 256 % 256, n / 256 / 256 % 256, n / 256 % 256, n % 256] := rfl
  rw [e]
  simp only [List.cons.injEq, and_true]
  refine ⟨?_, ?_, ?_⟩ <;> omega
theorem takes {α : Type} {f : α → List Int} {l : List α} {i : Nat} {x : α} (e : l[i]? = some x) : (l.take (i + 1)).flatMap f = (l.take i).flatMap f ++ f x := by
  rw [List.take_succ, e, List.flatMap_append]; simp
/-- the groups' flat form at the i-th -/
theorem flat_at {gs : List (List (Int × List Int))} {i : Nat} {g : List (Int × List Int)} (T : List Int) (e : gs[i]? = some g) : gs.flatMap wg ++ T = (gs.take i).flatMap wg ++ (wg g ++ ((gs.drop (i + 1)).flatMap wg ++ T)) := by
  have hi := (List.getElem?_eq_some_iff.mp e).1
  have h2 : gs.drop i = g :: gs.drop (i + 1) := by
    rw [List.drop_eq_getElem_cons hi, (List.getElem?_eq_some_iff.mp e).2]
  conv => lhs; rw [← List.take_append_drop i gs, List.flatMap_append, h2, List.flatMap_cons]
  simp only [List.append_assoc]
section
variable {P : Program} {w : World} {K : PySem.W.Frag} {mg : Str → Option Value} {base : Heap} {c : Cl}
def Dr (K : PySem.W.Frag) (H : Hp) (st sc : Addr) : Prop := ∃ (i v : Int) (ns : List Int), 0 ≤ i ∧ 0 ≤ v ∧ H st = some (.lst [.int i, .int v]) ∧ ns.length ≤ 63 ∧ Sc K H sc ns
def sp__law_draw (K : PySem.W.Frag) : Sp := fun vs H Q _ => ∃ st sc n, vs = [.ref st, .ref sc, .int n] ∧ 0 < n ∧ n < 2 ^ 64 ∧ Dr K H st sc ∧
  ∀ d H', 0 ≤ d → d < n → Dr K H' st sc → Kp (F1 st) H H' → Q (.int d) H'
theorem ok__law_draw (T : Txt K mg c) : GF P w K mg base CX0 1 "_law_draw" (sp__law_draw K) := by
  obtain ⟨f, fd, F, gm⟩ := T.f__law_draw
  refine ⟨f, fd, ["_law_state", "_law_script", "_law_size"], F.ok sc__law_draw ?_ (fun cdv A outer s H vs Q E hr h => ?_), gm, F.kp, (F.binds (ps := ["_law_state", "_law_script", "_law_size"]) fun _ _ _ _ _ _ us hl => match us, hl with | [_, _, _], _ => rfl)⟩
  · rintro vs H Q E ⟨_, _, _, rfl, _⟩
    rfl
  · obtain ⟨st, sc, n, rfl, hn0, hn1, ⟨i, v, ns, hi, hv, hst, hlen, hsc⟩, k⟩ := h
    refine ⟨_, (C8.pss_cut (ps_if (pt_cmpR op_eq (pe_ix (r := rIxL K) ix_list (pv 0) pe_int (fun _ _ => rfl)) pe_int (nomark _)) (pss_cons (ps_set (i := 3) sc__law_draw.nd rfl (Or.inl rfl) pe_int)
      (C8.pss_cut (ps_if (pt_cmpR op_gt (pe_callB (r := rLenQ K) c_len (by rfl) T.z_len PySem.boot_len (pa_cons (pv 1) pa_nil)) pe_int (nomark _)) (pss_one (ps_set (i := 3) sc__law_draw.nd rfl (Or.inl rfl) (pe_ix (r := rIxL K) ix_list (pv 1) (pe_op op_mod (pe_ix (r := rIxL K) ix_list (pv 0) pe_int (fun _ _ => rfl)) (pe_callB (r := rLenQ K) c_len (by rfl) T.z_len PySem.boot_len (pa_cons (pv 1) pa_nil))) (fun _ _ => rfl)))) pss_nil)
      (C8.pss_cut (ps_if (pt_cmpR op_lt (pv 3) pe_int (nomark _)) (pss_one (ps_set (i := 3) sc__law_draw.nd rfl (Or.inl rfl) (pe_op op_sub pe_int (pe_op op_mul pe_int (pv 3))))) pss_nil)
      (pss_cons (ps_set (i := 4) sc__law_draw.nd rfl (Or.inl rfl) (pe_op op_mod (pe_callTy c_int (by rfl) T.z_int (by decide +kernel) (pa_cons (pe_op op_mul (pe_op op_add (pe_op op_add (pv 3) (pe_op op_mul (pe_ix (r := rIxL K) ix_list (pv 0) pe_int (fun _ _ => rfl)) pe_int)) pe_int) pe_int) pa_nil)) pe_int))
      (pss_cons (ps_asg (pe_op op_mod (pe_callTy c_int (by rfl) T.z_int (by decide +kernel) (pa_cons (pe_op op_add (pe_op op_mul (pv 4) pe_int) (pe_op op_mul (pe_ix (r := rIxL K) ix_list (pv 0) pe_int (fun _ _ => rfl)) pe_int)) pa_nil)) pe_int) (pg_sub (pv 0) pe_int set_list))
      (C8.pss_cut (ps_if (PW.pt (pw_and (pt_cmpR op_ge (pv 3) (pe_op op_pow pe_int pe_int) (nomark _)) (pw_and1 (pt_cmpR op_lt (pe_ix (r := rIxL K) ix_list (pv 0) pe_int (fun _ _ => rfl)) (pe_callB (r := rLenQ K) c_len (by rfl) T.z_len PySem.boot_len (pa_cons (pv 1) pa_nil)) (nomark _))))) (pss_one (ps_asg (pv 3) (pg_sub (pv 0) pe_int set_list))) pss_nil)
      (pss_one (ps_asg (pe_op op_add (pe_ix (r := rIxL K) ix_list (pv 0) pe_int (fun _ _ => rfl)) pe_int) (pg_sub (pv 0) pe_int set_list))))))))) pss_nil)
      (pss_cons (ps_set (i := 5) sc__law_draw.nd rfl (Or.inl rfl) (pe_op op_mod (pe_callTy c_int (by rfl) T.z_int (by decide +kernel) (pa_cons (pe_ix (r := rIxL K) ix_list (pv 0) pe_int (fun _ _ => rfl)) pa_nil)) (pv 2)))
      (pss_cons (ps_asg (pe_op op_fdivW (pe_ix (r := rIxL K) ix_list (pv 0) pe_int (fun _ _ => rfl)) (pv 2)) (pg_sub (pv 0) pe_int set_list))
      (pss_one (ps_ret (pv 5)))))), ?_⟩
    walk_at "cx"
    walk_at "rd"
    have kpu : ∀ o, Kp (F1 st) H (upd H st o) := fun o => Kp.put hst id
    refine x_cut (fun σ' H' => ∃ (i' v' : Int) (u1 u2 : Option V), σ' = [some (.ref st), some (.ref sc), some (.int n), u1, u2, none] ∧ 0 ≤ i' ∧ 0 ≤ v' ∧ H' = upd H st (.lst [.int i', .int v'])) ?_ ?_
    · walk_at "rd"
      refine ite_dec (fun e => ?_) (fun e => ?_)
      · walk_at "rd"
        refine x_cut (fun σ' H' => ∃ (c : Int), σ' = [some (.ref st), some (.ref sc), some (.int n), some (.int c), none, none] ∧ H = H') ?_ ?_
        · walk_at "rd"
          refine ite_dec (fun e1 => ?_) (fun e1 => ?_)
          · have hl : (0 : Int) < ((ns.map V.int).length : Int) := e1
            have hb := Int.emod_lt_of_pos i hl
            have hb0 := Int.emod_nonneg i (Int.ne_of_gt hl)
            walk_at "rd"
            refine x_ixL hsc.sq (v := .int (ns.getD (i % ((ns.map V.int).length : Int)).toNat 0)) (atI_at (i % ((ns.map V.int).length : Int)).toNat (by omega) ?_) ?_
            · rw [List.length_map] at *
              rw [List.getElem?_map, List.getD_eq_getElem?_getD, List.getElem?_eq_getElem (by omega)]
              rfl
            · walk_at "rd"
              exact ⟨_, rfl, rfl⟩
          · exact ⟨0, rfl, rfl⟩
        · rintro σ' H' ⟨c, rfl, rfl⟩
          refine x_cut (fun σ' H' => ∃ (c : Int), 0 ≤ c ∧ σ' = [some (.ref st), some (.ref sc), some (.int n), some (.int c), none, none] ∧ H = H') ?_ ?_
          · walk_at "rd"
            refine ite_dec (fun e2 => ?_) (fun e2 => ?_)
            · walk_at "rd"
              exact ⟨_, by omega, rfl, rfl⟩
            · exact ⟨c, by omega, rfl, rfl⟩
          · rintro σ' H' ⟨c, hc, rfl, rfl⟩
            walk_at "rd"
            have hm0 : ∀ z : Int, 0 ≤ z % 4294967291 := fun z => Int.emod_nonneg z (by decide)
            refine x_cut (fun σ' H' => ∃ (v' : Int) (u1 : Option V), 0 ≤ v' ∧ σ' = [some (.ref st), some (.ref sc), some (.int n), some (.int c), u1, none] ∧ H' = upd H st (.lst [.int i, .int v'])) ?_ ?_
            · walk_at "rd"
              refine ite_dec (fun e3 => ?_) (fun e3 => ?_)
              · walk_at "rd"
                refine x_lenL (hsc.kp (kpu _)).sq ?_
                walk_at "rd"
                refine ite_dec (fun e4 => ?_) (fun e4 => ?_)
                · walk_at "rd"
                  exact ⟨c, _, hc, rfl, upd_upd⟩
                · exact ⟨_, _, hm0 _, rfl, rfl⟩
              · exact ite_bool (fun z => by cases z) (fun _ => ⟨_, _, hm0 _, rfl, rfl⟩)
            · rintro σ' H' ⟨v', u1, hv', rfl, rfl⟩
              walk_at "rd"
              exact ⟨i + 1, v', _, _, rfl, by omega, hv', upd_upd⟩
      · exact ⟨i, v, _, _, rfl, hi, hv, (upd_id hst).symm⟩
    · rintro σ' H' ⟨i', v', u1, u2, rfl, hi', hv', rfl⟩
      walk_at "rd"
      refine k _ _ (Int.emod_nonneg _ (by omega)) (Int.emod_lt_of_pos _ hn0) ⟨i', v' / n, ns, hi', Int.ediv_nonneg hv' (by omega), upd_same, hlen, ?_⟩ ?_
      · rw [upd_upd]; exact hsc.kp (kpu _)
      · rw [upd_upd]; exact kpu _
theorem Dr.kp {K : PySem.W.Frag} {F : Addr → Prop} {H H' : Hp} {st sc : Addr} (s : Kp F H H') (d : Dr K H st sc) (n : ¬ F st) : Dr K H' st sc := by
  obtain ⟨i, v, ns, hi, hv, hst, hl, hs⟩ := d
  exact ⟨i, v, ns, hi, hv, s.get hst n, hl, hs.kp s⟩
theorem Dr.ne {K : PySem.W.Frag} {H H0 : Hp} {st sc D : Addr} {o : HO} (d : H0 st = some o) (n : H0 D = none) : st ≠ D := ne_of_none d n
theorem Dr.off {K : PySem.W.Frag} {H : Hp} {st sc D : Addr} {o : HO} (d : Dr K H st sc) (n : st ≠ D) (m : ∀ u, H D = some u → ¬ Fix u) : Dr K (upd H D o) st sc := by
  obtain ⟨i, v, ns, hi, hv, hst, hl, hs⟩ := d
  refine ⟨i, v, ns, hi, hv, by rw [upd_ne n]; exact hst, hl, ?_⟩
  rcases hs with ⟨f, h⟩ | h
  · refine .inl ⟨f, ?_⟩
    rw [upd_ne fun e => m (.frz f (.lst (ns.map V.int))) (by rw [← e]; exact h) trivial]
    exact h
  · exact .inr h
theorem Dr.trk {K : PySem.W.Frag} {H : Hp} {st sc : Addr} (h : Dr K H st sc) : ∃ o, H st = some o := by
  obtain ⟨_, _, _, _, _, e, _⟩ := h
  exact ⟨_, e⟩
theorem Dr.new {K : PySem.W.Frag} {H : Hp} {st sc l : Addr} (h : Dr K H st sc) (n : H l = none) : l ≠ st := fun e => by
  obtain ⟨_, z⟩ := h.trk
  rw [← e, n] at z; cases z
end
section
variable {P : Program} {w : World} {K : PySem.W.Frag} {mg : Str → Option Value} {base : Heap} {c : Cl}
def sp_write_number : Sp := fun vs H Q _ => ∃ (k : Nat) (n : Int), vs = [.int k, .int n] ∧ k ≤ 8 ∧ ∀ p H', H p = none → Kp F0 H H' → H' p = some (.lst ((wn k n).map V.int)) → Q (.ref p) H'
theorem ok_write_number (T : Txt K mg c) : GF P w K mg base CX0 1 "write_number" sp_write_number := by
  obtain ⟨f, fd, F, gm⟩ := T.f_write_number
  refine ⟨f, fd, ["width", "number"], F.ok sc_write_number ?_ (fun cdv A outer s H vs Q E hr h => ?_), gm, F.kp, (F.binds (ps := ["width", "number"]) fun _ _ _ _ _ _ us hl => match us, hl with | [_, _], _ => rfl)⟩
  · rintro vs H Q E ⟨_, _, rfl, _⟩
    rfl
  · obtain ⟨n, z, rfl, hn, k⟩ := h
    refine ⟨_, (pss_one (ps_ret (pe_lc (own := [("k", 2)]) (g := (gName 2)) (tt := tYes) rfl sc_write_number.nd (pi_range1 (by rfl) T.z_range (pa_cons (pv 0) pa_nil)) (blkOk_by (N := ["width", "number", "k"]) (sc := defScope s_write_number) (by decide +kernel)) (fun _ _ _ _ _ => (pg_name (i := 2) sc_write_number.nd rfl (Or.inl rfl))) (fun _ _ _ _ _ => pts_nil) (fun _ _ _ _ _ => (pe_op o_and (pe_op op_shr (pv 1) (pe_op op_mul pe_int (pe_op op_sub (pe_op op_sub (pv 0) pe_int) (pv 2)))) pe_int))))), ?_⟩
    walk_at "cx"
    walk_at "rd"
    refine wlcP (ys := (wn n z).map V.int) Wk.rng (by rw [List.length_map, rgl_len, wn_len]; rfl) (by rw [rgl_len]; omega) (fun _ _ => trivial) (fun i x y H' R ex ey kp hR => ?_) (fun D H1 hD kp hDl => k D H1 hD kp hDl)
    obtain ⟨hi, rfl⟩ := rgl_at ex
    have hi' : i < n := hi
    rw [List.getElem?_map, wn_get hi'] at ey
    cases ey
    walk_at "rd"
    refine ⟨rfl, ?_⟩
    walk_at "rd"
    have e : 8 * ((n : Int) - 1 - (0 + (i : Nat))) = ((8 * (n - 1 - i) : Nat) : Int) := by omega
    have q := hR H' (Kp.refl _)
    rw [← pow_256] at q
    rw [e]
    exact q
def sp_read_number (K : PySem.W.Frag) : Sp := fun vs H Q _ => ∃ (a : Addr) (ds : List Int) (i k : Nat), vs = [.ref a, .int i, .int k] ∧ SqL K H a (ds.map V.int) ∧ ∀ H', Kp F0 H H' → Q (.int (rn ((ds.drop i).take k))) H'
theorem ok_read_number (T : Txt K mg c) : GF P w K mg base CX0 1 "read_number" (sp_read_number K) := by
  obtain ⟨f, fd, F, gm⟩ := T.f_read_number
  refine ⟨f, fd, ["data", "place", "width"], F.ok sc_read_number ?_ (fun cdv A outer s H vs Q E hr h => ?_), gm, F.kp, (F.binds (ps := ["data", "place", "width"]) fun _ _ _ _ _ _ us hl => match us, hl with | [_, _, _], _ => rfl)⟩
  · rintro vs H Q E ⟨_, _, _, _, rfl, _⟩
    rfl
  · obtain ⟨a, ds, i, n, rfl, ha, k⟩ := h
    refine ⟨_, (pss_cons (ps_set (i := 3) sc_read_number.nd rfl (Or.inl rfl) pe_int)
      (pss_cons (ps_for PassesOwn.never rfl (pi_listK rfl (pe_slice (r := rSlL K) sl_list (pv 0) (po_some (pv 1)) (po_some (pe_op op_add (pv 1) (pv 2))))) (pg_name (i := 4) sc_read_number.nd rfl (Or.inl rfl)) (pss_one (ps_set (i := 3) sc_read_number.nd rfl (Or.inl rfl) (pe_op op_add (pe_op op_mul (pv 3) pe_int) (pv 4)))))
      (pss_one (ps_ret (pv 3))))), ?_⟩
    walk_at "cx"
    walk_at "rd"
    refine x_slL ha fun l H1 hl kp hl1 => ?_
    rw [cut_mid (by omega) (by omega), show ((i : Int) + (n : Int) - (i : Int)).toNat = n by omega, Int.toNat_natCast] at hl1
    walk_at "rd"
    refine wfor Wk.list (fun j σ H' => ∃ u, σ = [some (.ref a), some (.int i), some (.int n), some (.int (rn (((ds.drop i).take n).take j))), u] ∧ H1 = H') ⟨none, rfl, rfl⟩ (fun j σ H' ⟨u, _, e⟩ => by rw [← e]; exact SqL.of hl1) ?_ ?_
    · rintro j x σ H' ex ⟨u, rfl, rfl⟩
      rw [List.getElem?_map] at ex
      cases q : ((ds.drop i).take n)[j]? with
      | none => rw [q] at ex; cases ex
      | some z =>
        rw [q] at ex
        cases ex
        walk_at "rd"
        refine ⟨some (.int z), ?_, rfl⟩
        rw [List.take_succ (l := (ds.drop i).take n), q]
        show _ = [some (V.ref a), some (V.int i), some (V.int n), some (V.int (rn (((ds.drop i).take n).take j ++ [z]))), some (V.int z)]
        rw [rn_app]; rfl
    · rintro σ H' ⟨u, rfl, rfl⟩
      walk_at "rd"
      rw [List.length_map, List.take_length]
      exact k H1 kp
end
section
variable {P : Program} {w : World} {K : PySem.W.Frag} {mg : Str → Option Value} {base : Heap} {c : Cl}
def sp_write_group (K : PySem.W.Frag) : Sp := fun vs H Q _ => ∃ O a ws g, vs = [.ref a] ∧ SqL K H a ws ∧ Paired (PAt O H) ws g ∧ Good g ∧ ∀ b H', H b = none → Kp F0 H H' → H' b = some (.lst ((wg g).map V.int)) → Q (.ref b) H'
theorem fm_le {g : List (Int × List Int)} (h : Good g) (i : Nat) : (wn 4 g.length ++ (g.take i).flatMap chunk).length ≤ 20000 := by
  rw [List.length_append, wn_len, fm_len (n := 260) fun q hq => chunk_len (h.q q (List.mem_of_mem_take hq)).2.2, List.length_take]
  have := h.n
  omega
theorem ok_write_group (T : Txt K mg c) : GF P w K mg base CX0 2 "write_group" (sp_write_group K) := by
  obtain ⟨f, fd, F, gm⟩ := T.f_write_group
  obtain ⟨_, mg_NUMBER_SIZE⟩ := T.m_NUMBER_SIZE
  refine ⟨f, fd, ["pairs"], F.ok sc_write_group ?_ (fun cdv A outer s H vs Q E hr h => ?_), gm, F.kp, (F.binds (ps := ["pairs"]) fun _ _ _ _ _ _ us hl => match us, hl with | [_], _ => rfl)⟩
  · rintro vs H Q E ⟨_, _, _, _, rfl, _⟩
    rfl
  · obtain ⟨O, a, ws, g, rfl, ha, hp, hg, k⟩ := h
    have lw : ws.length = g.length := hp.length
    refine ⟨_, (pss_cons (ps_set (i := 1) sc_write_group.nd rfl (Or.inl rfl) (pe_g (ok_write_number T) (hr.mono (by decide)) pass0S (pa_cons (pe_glob (v := .int 4) rfl mg_NUMBER_SIZE ⟨_, rfl⟩) (pa_cons (pe_callB (r := rLenQ K) c_len (by rfl) T.z_len PySem.boot_len (pa_cons (pv 0) pa_nil)) pa_nil))))
      (pss_cons (ps_for PassesOwn.never rfl (pi_listK rfl (pv 0)) (pg_kT rfl (pg_tup (n := 2) rfl (pgs_cons (pg_name (i := 2) sc_write_group.nd rfl (Or.inl rfl)) (pgs_cons (pg_name (i := 3) sc_write_group.nd rfl (Or.inl rfl)) pgs_nil)))) (pss_cons (ps_expr (pe_kBM rfl (pe_bm PySem.F.plainAttrs_list PySem.F.slot_list_extend PySem.F.type_list_extend mt_extend (pv 1) (pa_cons (pe_g (ok_write_number T) (hr.mono (by decide)) pass0S (pa_cons (pe_glob (v := .int 4) rfl mg_NUMBER_SIZE ⟨_, rfl⟩) (pa_cons (pv 2) pa_nil))) pa_nil))))
      (pss_one (ps_expr (pe_kBM rfl (pe_bm PySem.F.plainAttrs_list PySem.F.slot_list_extend PySem.F.type_list_extend mt_extend (pv 1) (pa_cons (pv 3) pa_nil)))))))
      (pss_one (ps_ret (pv 1))))), ?_⟩
    walk_at "cx"
    walk_at "rd"
    rw [lw]
    refine ⟨4, g.length, rfl, by decide, fun d H1 hd k1 e1 => ?_⟩
    walk_at "rd"
    refine x_iL1 (k1.sqL ha id) ?_
    refine wfor Wk.list (fun i σ H' => ∃ u v, σ = [some (.ref a), some (.ref d), u, v] ∧ H' d = some (.lst ((wn 4 g.length ++ (g.take i).flatMap chunk).map V.int)) ∧ Kp F0 H H')
      ⟨none, none, rfl, by rw [e1]; simp, k1⟩ (fun i σ H' ⟨_, _, _, _, kk⟩ => kk.sqL ha id) ?_ ?_
    · rintro i x σ H2 ex ⟨u, v, rfl, ed, kk⟩
      obtain ⟨q, eq, t, l, rfl, ht, hl, _⟩ := pgt hp ex
      have ht2 := kk.tup ht
      have hl2 := kk.get hl id
      have l2 := (hg.q q (List.mem_of_getElem? eq)).2.2
      walk_at "rd"
      refine ⟨4, q.1, rfl, by decide, fun b H3 hb k3 e3 => ?_⟩
      have ed3 := k3.get ed id
      walk_at "rd"
      have l3 := fm_le hg i
      refine x_ext ed3 e3 (by rw [List.length_map, List.length_map, wn_len]; omega) fun H4 e4 k4 => ?_
      have ndl : d ≠ l := (ne_of_none hl hd).symm
      have hl4 := k4.get (k3.get hl2 id) ndl.symm
      walk_at "rd"
      refine x_ext e4 hl4 (by rw [List.length_append, List.length_map, List.length_map, List.length_map, wn_len]; omega) fun H5 e5 k5 => ?_
      refine ⟨_, _, rfl, ?_, (((kk.trans k3 fun _ z => z.elim).trans k4 fun x z => .inr (by rw [z]; exact hd)).trans k5 fun x z => .inr (by rw [z]; exact hd))⟩
      rw [e5, takes eq]
      unfold chunk
      simp only [List.map_append, List.append_assoc]
    · rintro σ H2 ⟨u, v, rfl, ed, kk⟩
      rw [lw, List.take_length] at ed
      walk_at "rd"
      exact k d H2 hd kk ed
def sp_read_groups (K : PySem.W.Frag) : Sp := fun vs H Q _ => ∃ a ds gs more j, vs = [.ref a] ∧ SqL K H a (ds.map V.int) ∧ ds = gs.flatMap wg ++ (wg more).take j ∧ j < (wg more).length ∧ (∀ g ∈ gs, Good g) ∧ Good more ∧ gs.length ≤ 100000 ∧
  ∀ r H', H r = none → Kp F0 H H' → GsAt (fun b => H b = none) H' r gs → Q (.ref r) H'
theorem ok_read_groups (T : Txt K mg c) : GF P w K mg base CX0 2 "read_groups" (sp_read_groups K) := by
  obtain ⟨f, fd, F, gm⟩ := T.f_read_groups
  obtain ⟨_, mg_NUMBER_SIZE⟩ := T.m_NUMBER_SIZE
  obtain ⟨_, mg_PAGE_SIZE⟩ := T.m_PAGE_SIZE
  refine ⟨f, fd, ["data"], F.ok sc_read_groups ?_ (fun cdv A outer s H vs Q E hr h => ?_), gm, F.kp, (F.binds (ps := ["data"]) fun _ _ _ _ _ _ us hl => match us, hl with | [_], _ => rfl)⟩
  · rintro vs H Q E ⟨_, _, _, _, _, rfl, _⟩
    rfl
  · obtain ⟨a, ds, gs, more, j, rfl, ha, eds, hj, hgs, hm, lgs, k⟩ := h
    refine ⟨_, (pss_cons (ps_set (i := 1) sc_read_groups.nd rfl (Or.inl rfl) (pe_lst pa_nil))
      (pss_cons (ps_set (i := 2) sc_read_groups.nd rfl (Or.inl rfl) pe_int)
      (pss_cons (ps_while PassesOwn.never (pt_cmpR op_le (pe_op op_add (pv 2) (pe_glob (v := .int 4) rfl mg_NUMBER_SIZE ⟨_, rfl⟩)) (pe_callB (r := rLenQ K) c_len (by rfl) T.z_len PySem.boot_len (pa_cons (pv 0) pa_nil)) (nomark _)) (pss_cons (ps_set (i := 3) sc_read_groups.nd rfl (Or.inl rfl) (pe_g (ok_read_number T) (hr.mono (by decide)) pass0S (pa_cons (pv 0) (pa_cons (pv 2) (pa_cons (pe_glob (v := .int 4) rfl mg_NUMBER_SIZE ⟨_, rfl⟩) pa_nil)))))
      (pss_cons (ps_aug (i := 2) sc_read_groups.nd rfl (Or.inl rfl) (pe_glob (v := .int 4) rfl mg_NUMBER_SIZE ⟨_, rfl⟩) ip_add)
      (pss_cons (ps_if (pt_cmpR op_gt (pe_op op_add (pv 2) (pe_op op_mul (pv 3) (pe_op op_add (pe_glob (v := .int 4) rfl mg_NUMBER_SIZE ⟨_, rfl⟩) (pe_glob (v := .int 256) rfl mg_PAGE_SIZE ⟨_, rfl⟩)))) (pe_callB (r := rLenQ K) c_len (by rfl) T.z_len PySem.boot_len (pa_cons (pv 0) pa_nil)) (nomark _)) (pss_one (ps_ret (pv 1))) pss_nil)
      (pss_cons (ps_set (i := 4) sc_read_groups.nd rfl (Or.inl rfl) (pe_lst pa_nil))
      (pss_cons (ps_for PassesOwn.never rfl (pi_range1 (by rfl) T.z_range (pa_cons (pv 3) pa_nil)) (pg_name (i := 5) sc_read_groups.nd rfl (Or.inl rfl)) (pss_cons (ps_set (i := 6) sc_read_groups.nd rfl (Or.inl rfl) (pe_op op_add (pv 2) (pe_glob (v := .int 4) rfl mg_NUMBER_SIZE ⟨_, rfl⟩)))
      (pss_cons (ps_expr (pe_kBM rfl (pe_bm PySem.F.plainAttrs_list PySem.F.slot_list_append PySem.F.type_list_append mt_append (pv 4) (pa_cons (pe_tup (pa_cons (pe_g (ok_read_number T) (hr.mono (by decide)) pass0S (pa_cons (pv 0) (pa_cons (pv 2) (pa_cons (pe_glob (v := .int 4) rfl mg_NUMBER_SIZE ⟨_, rfl⟩) pa_nil)))) (pa_cons (pe_slice (r := rSlL K) sl_list (pv 0) (po_some (pv 6)) (po_some (pe_op op_add (pv 6) (pe_glob (v := .int 256) rfl mg_PAGE_SIZE ⟨_, rfl⟩)))) pa_nil))) pa_nil))))
      (pss_one (ps_set (i := 2) sc_read_groups.nd rfl (Or.inl rfl) (pe_op op_add (pv 6) (pe_glob (v := .int 256) rfl mg_PAGE_SIZE ⟨_, rfl⟩)))))))
      (pss_one (ps_expr (pe_kBM rfl (pe_bm PySem.F.plainAttrs_list PySem.F.slot_list_append PySem.F.type_list_append mt_append (pv 1) (pa_cons (pv 4) pa_nil)))))))))))
      (pss_one (ps_ret (pv 1)))))), ?_⟩
    walk_at "cx"
    walk_at "rd"
    refine x_newL fun r H1 hr1 k1 e1 => ?_
    walk_at "rd"
    refine x_wh (fun m σ H' => ∃ i vs u3 u4 u5 u6, m = gs.length - i ∧ i ≤ gs.length ∧ σ = [some (.ref a), some (.ref r), some (.int ((gs.take i).flatMap wg).length), u3, u4, u5, u6] ∧ H' r = some (.lst vs) ∧ vs.length = i ∧ Paired (GAt (fun b => H b = none ∧ b ≠ r) H') vs (gs.take i) ∧ Kp F0 H H')
      ⟨_, 0, [], none, none, none, none, rfl, Nat.zero_le _, rfl, e1, rfl, .nil, k1⟩ ?_
    rintro m σ H2 ⟨i, vs, u3, u4, u5, u6, rfl, hi, rfl, er, lvs, hv, kk⟩
    have fin : ∀ H3, Kp F0 H2 H3 → i = gs.length → Q (.ref r) H3 := fun H3 k3 e => by
      refine k r H3 hr1 (kk.trans k3 fun _ z => z.elim) ⟨vs, k3.get er id, hr1, ?_⟩
      rw [e, List.take_length] at hv
      exact hv.mono fun _ _ x => (x.own fun b _ o => o.1).kp k3 fun _ _ _ _ z => z
    generalize hA : (gs.take i).flatMap wg = A
    have ha2 := kk.sqL ha id
    by_cases hlt : i < gs.length
    · obtain ⟨g, eg⟩ : ∃ g, gs[i]? = some g := ⟨_, List.getElem?_eq_getElem hlt⟩
      have gg := hgs g (List.mem_of_getElem? eg)
      generalize hT : (gs.drop (i + 1)).flatMap wg ++ (wg more).take j = Tl
      have ed : ds = A ++ (wg g ++ Tl) := by rw [eds, flat_at _ eg, hA, hT]
      have ld : ds.length = A.length + (4 + 260 * g.length) + Tl.length := by rw [ed, List.length_append, List.length_append, wg_len gg]; omega
      have := gg.n
      walk_at "rd"
      rw [List.length_map]
      refine if_dtt (by omega) ?_
      refine ⟨_, fun _ _ z => z, ?_⟩
      walk_at "rd"
      refine ⟨a, ds, A.length, 4, rfl, ha2, fun H3 k3 => ?_⟩
      rw [rd_count gg ed]
      have ha3 := k3.sqL ha2 id
      have er3 := k3.get er id
      walk_at "rd"
      refine x_augv rfl ?_
      walk_at "rd"
      refine x_ipI ?_
      walk_at "rd"
      rw [List.length_map]
      refine if_dff (by omega) ?_
      walk_at "rd"
      refine x_newL fun p H4 hp4 k4 e4 => ?_
      have ha4 := k4.sqL ha3 id
      have er4 := k4.get er3 id
      have nrp : r ≠ p := ne_of_none er3 hp4
      walk_at "rd"
      refine wfor Wk.rng (fun t σ H' => ∃ ws u5 u6, σ = [some (.ref a), some (.ref r), some (.int ((A.length + 4 + 260 * t : Nat) : Int)), some (.int g.length), some (.ref p), u5, u6] ∧ H' p = some (.lst ws) ∧ ws.length = t ∧ Paired (PAt (fun b => (H b = none ∧ b ≠ r) ∧ b ≠ p) H') ws (g.take t) ∧ Kp F0 H3 H')
        ⟨[], u5, u6, by simp, e4, rfl, .nil, k4⟩ (fun _ _ _ _ => trivial) ?_ ?_
      · rintro t x σ H5 ex ⟨ws, u5, u6, rfl, ep, lt, hw, kk5⟩
        obtain ⟨ht, rfl⟩ := rgl_at ex
        have ht' : t < g.length := by have : t < (g.length : Int).toNat := ht; omega
        obtain ⟨q, eq⟩ : ∃ q, g[t]? = some q := ⟨_, List.getElem?_eq_getElem ht'⟩
        have rc := rd_chunk gg ed eq
        have ha5 := kk5.sqL ha3 id
        walk_at "rd"
        refine ⟨a, ds, A.length + 4 + 260 * t, 4, rfl, ha5, fun H6 k6 => ?_⟩
        rw [rc.1]
        walk_at "rd"
        refine x_slL (k6.sqL ha5 id) fun l H7 hl k7 e7 => ?_
        rw [cut_mid (by omega) (by omega), show ((((A.length + 4 + 260 * t : Nat) : Int) + 4).toNat) = A.length + 4 + 260 * t + 4 by omega, show ((((A.length + 4 + 260 * t : Nat) : Int) + 4 + 256 - (((A.length + 4 + 260 * t : Nat) : Int) + 4)).toNat) = 256 by omega, rc.2] at e7
        walk_at "rd"
        refine x_newT fun tp H8 htp k8 e8 => ?_
        have k58 : Kp F0 H5 H8 := (k6.trans k7 fun _ z => z.elim).trans k8 fun _ z => z.elim
        have ep8 := k58.get ep id
        walk_at "rd"
        refine x_app ep8 (by have := gg.n; omega) fun H9 e9 k9 => ?_
        walk_at "rd"
        have k35 : Kp F0 H3 H7 := (kk5.trans k6 fun _ z => z.elim).trans k7 fun _ z => z.elim
        have hl3 : H3 l = none := kk5.free (k6.free hl id) id
        have er5 := (kk5.trans k6 fun _ z => z.elim).get er3 id
        have ep6 := k6.get ep id
        have nlr : l ≠ r := (ne_of_none er5 hl).symm
        have nlp : l ≠ p := (ne_of_none ep6 hl).symm
        refine ⟨ws ++ [.ref tp], some (.int (0 + (t : Int))), some (.int (((A.length + 4 + 260 * t : Nat) : Int) + 4)), ?_, e9, by rw [List.length_append, lt]; rfl, ?_, (kk5.trans k58 fun _ z => z.elim).trans k9 fun x z => .inr (by rw [z]; exact hp4)⟩
        · rw [show (((A.length + 4 + 260 * (t + 1) : Nat)) : Int) = ((A.length + 4 + 260 * t : Nat) : Int) + 4 + 256 by omega]; rfl
        · rw [List.take_succ, eq]
          refine Paired.snoc (hw.mono fun _ _ x => (x.kp k58 fun _ _ _ _ z => z).kp k9 fun b _ _ o z => o.2 z) ⟨tp, l, rfl, k9.tup e8, k9.get (k8.get e7 id) nlp, ⟨kk.free (k3.free hl3 id) id, nlr⟩, nlp⟩
      · rintro σ H5 ⟨ws, u5, u6, rfl, ep, lt, hw, kk5⟩
        have er5 := kk5.get er3 id
        have hlen : (rgl 0 (g.length : Int).toNat).length = g.length := by rw [rgl_len]; omega
        rw [hlen] at lt hw
        rw [hlen]
        rw [List.take_length] at hw
        walk_at "rd"
        refine x_app er5 (by omega) fun H6 e6 k6 => ?_
        have k26 : Kp (F1 r) H2 H6 := ((k3.mono fun _ z => z.elim).trans kk5 fun _ z => z.elim).trans k6 fun _ z => .inl z
        have hpH : H p = none := kk.free (k3.free hp4 id) id
        refine ⟨gs.length - (i + 1), by omega, i + 1, vs ++ [.ref p], some (.int g.length), some (.ref p), u5, u6, rfl, hlt, ?_, e6, by rw [List.length_append, lvs]; rfl, ?_, kk.trans k26 fun x z => .inr (by rw [z]; exact hr1)⟩
        · rw [takes eg, hA, List.length_append, wg_len gg, show ((A.length + (4 + 260 * g.length) : Nat) : Int) = ((A.length + 4 + 260 * g.length : Nat) : Int) by omega]
        · rw [List.take_succ, eg]
          refine Paired.snoc (hv.mono fun _ _ x => x.kp k26 fun b _ _ o z => o.2 z) ⟨p, ws, rfl, k6.get ep nrp.symm, ⟨hpH, nrp.symm⟩, hw.mono fun _ _ x => (x.own fun b _ o => o.1).kp k6 fun b _ _ o z => o.2 z⟩
    · have ei : i = gs.length := by omega
      have eA : gs.flatMap wg = A := by rw [← hA, ei, List.take_length]
      have ed : ds = A ++ (wg more).take j := by rw [eds, eA]
      have ld : ds.length = A.length + j := by rw [ed, List.length_append, List.length_take]; omega
      have lm := wg_len hm
      walk_at "rd"
      rw [List.length_map]
      by_cases h4 : 4 ≤ j
      · refine if_dtt (by omega) ?_
        refine ⟨_, fun _ _ z => z, ?_⟩
        walk_at "rd"
        refine ⟨a, ds, A.length, 4, rfl, ha2, fun H3 k3 => ?_⟩
        rw [rd_part hm ed h4]
        have ha3 := k3.sqL ha2 id
        walk_at "rd"
        refine x_augv rfl ?_
        walk_at "rd"
        refine x_ipI ?_
        walk_at "rd"
        rw [List.length_map]
        refine if_dtt (by omega) ?_
        walk_at "rd"
        exact fin H3 k3 ei
      · refine if_dff (by omega) ?_
        walk_at "rd"
        exact fin H2 (Kp.refl _) ei
end
/-! ### the device -/
structure DevS where
  pages : List (Int × List Int)
  writes : List (Int × List Int)
  log : List Int
  steps : List (Option Int)
  done : Int
  most : Option Int
def oV : Option Int → V
  | none => .non
  | some i => .int i
def aget (l : List (Int × List Int)) (n : Int) : Option (List Int) := (l.find? fun q => decide (q.1 = n)).map (·.2)
def aput (l : List (Int × List Int)) (n : Int) (v : List Int) : List (Int × List Int) :=
  if (l.any fun q => decide (q.1 = n)) = true then l.map (fun q => if q.1 = n then (q.1, v) else q) else l ++ [(n, v)]
def zeros : List Int := List.replicate 256 0
/-- a page's durable content -/
def dpg (d : DevS) (n : Int) : List Int := (aget d.pages n).getD zeros
/-- a page's content behind all pending writes -/
def cpg (d : DevS) (n : Int) : List Int := match d.writes.reverse.find? fun q => decide (q.1 = n) with
  | some q => q.2
  | none => dpg d n
def lstep (l : List Int) : Option Int → List Int
  | none => []
  | some b => l ++ [b]
def clog (d : DevS) : List Int := d.steps.foldl lstep d.log
def can (d : DevS) : Bool := match d.most with
  | none => true
  | some m => decide (d.done < m)
/-- one step of power, then f -/
def pw (d : DevS) (f : DevS → DevS) : DevS × Bool := if can d = true then (f { d with done := d.done + 1 }, true) else (d, false)
def dWrite (n : Int) (ds : List Int) (d : DevS) : DevS × Bool := pw d fun d => { d with writes := d.writes ++ [(n, ds)] }
def dSyncP (d : DevS) : DevS × Bool := pw d fun d => { d with pages := d.writes.foldl (fun l q => aput l q.1 q.2) d.pages, writes := [] }
def dByte (b : Option Int) (d : DevS) : DevS × Bool := pw d fun d => { d with steps := d.steps ++ [b] }
def dApp : List Int → DevS → DevS × Bool
  | [], d => (d, true)
  | b :: r, d => if (dByte (some b) d).2 = true then dApp r (dByte (some b) d).1 else (d, false)
def dSyncL (d : DevS) : DevS × Bool := pw d fun d => { d with log := clog d, steps := [] }
def dLimit (s : Option Int) (d : DevS) : DevS := { d with most := s.map fun s => d.done + s }
def dFate (pages : List (Int × List Int)) (q : (Int × List Int) × Int) : List (Int × List Int) :=
  if q.2 = 1 then aput pages q.1.1 q.1.2 else if q.2 = 2 then aput pages q.1.1 (q.1.2.take 128 ++ ((aget pages q.1.1).getD zeros).drop 128) else pages
def dCrash (fates : List Int) (kept : Nat) (d : DevS) : DevS :=
  { pages := (d.writes.zip fates).foldl dFate d.pages, writes := [], log := (d.steps.take kept).foldl lstep d.log, steps := [], done := d.done, most := none }
/-- a list of the owned ones that never changes -/
def Im (H : Hp) (O G : Addr → Prop) (a : Addr) (ds : List Int) : Prop := H a = some (.lst (ds.map V.int)) ∧ O a ∧ ¬ G a
def RPg (H : Hp) (O G : Addr → Prop) (p : Key × V) (q : Int × List Int) : Prop := p.1 = .inl q.1 ∧ ∃ a, p.2 = .ref a ∧ Im H O G a q.2
def RWr (H : Hp) (O G : Addr → Prop) (v : V) (q : Int × List Int) : Prop := ∃ t a, v = .ref t ∧ H t = some (.tup [.int q.1, .ref a]) ∧ Im H O G a q.2
theorem Im.kp {F O G : Addr → Prop} {H H' : Hp} {a : Addr} {ds : List Int} (s : Kp F H H') (h : Im H O G a ds) (n : ∀ b, F b → G b) : Im H' O G a ds := ⟨s.get h.1 fun z => h.2.2 (n _ z), h.2⟩
theorem RPg.im {H H' : Hp} {O O' G G' : Addr → Prop} {p : Key × V} {q : Int × List Int} (f : ∀ a ds, Im H O G a ds → Im H' O' G' a ds) (h : RPg H O G p q) : RPg H' O' G' p q := by
  obtain ⟨e, a, ev, i⟩ := h
  exact ⟨e, a, ev, f _ _ i⟩
theorem RWr.im {F : Addr → Prop} {H H' : Hp} {O O' G G' : Addr → Prop} {v : V} {q : Int × List Int} (s : Kp F H H') (f : ∀ a ds, Im H O G a ds → Im H' O' G' a ds) (h : RWr H O G v q) : RWr H' O' G' v q := by
  obtain ⟨t, a, ev, ht, i⟩ := h
  exact ⟨t, a, ev, s.tup ht, f _ _ i⟩
theorem RPg.kp {F O G : Addr → Prop} {H H' : Hp} {p : Key × V} {q : Int × List Int} (s : Kp F H H') (n : ∀ b, F b → G b) (h : RPg H O G p q) : RPg H' O G p q := h.im fun _ _ i => i.kp s n
theorem RWr.kp {F O G : Addr → Prop} {H H' : Hp} {v : V} {q : Int × List Int} (s : Kp F H H') (n : ∀ b, F b → G b) (h : RWr H O G v q) : RWr H' O G v q := h.im s fun _ _ i => i.kp s n
def DevG (p a1 a2 a4 : Addr) : Addr → Prop := fun b => b = p ∨ b = a1 ∨ b = a2 ∨ b = a4
structure DevA (c : Cl) (O : Addr → Prop) (H : Hp) (p dx a1 a2 a3 a4 : Addr) (kvs : List (Key × V)) (ws : List V) (d : DevS) : Prop where
  o : H p = some (.ins c.Device dx (F_Device (.ref a1) (.ref a2) (.ref a3) (.ref a4) (.int d.done) (oV d.most)))
  pg : H a1 = some (.dK kvs)
  pr : Paired (RPg H O (DevG p a1 a2 a4)) kvs d.pages
  wr : H a2 = some (.lst ws)
  wp : Paired (RWr H O (DevG p a1 a2 a4)) ws d.writes
  lg : Im H O (DevG p a1 a2 a4) a3 d.log
  st : H a4 = some (.lst (d.steps.map oV))
  ne : a2 ≠ a4
  ow : ∀ b, DevG p a1 a2 a4 b → O b
/-- a device at p that owns O -/
def DevAt (c : Cl) (H : Hp) (p : Addr) (O : Addr → Prop) (d : DevS) : Prop := (∃ dx a1 a2 a3 a4 kvs ws, DevA c O H p dx a1 a2 a3 a4 kvs ws d) ∧ ∀ b, O b → ∃ o, H b = some o
/-- what was owned or is new, and stands -/
def nO (O : Addr → Prop) (H H' : Hp) : Addr → Prop := fun x => (O x ∨ H x = none) ∧ ∃ o, H' x = some o
/-- a state with its objects told goes through a step that leaves them -/
theorem DevA.im {c : Cl} {F O O' : Addr → Prop} {H H' : Hp} {p dx a1 a2 a3 a4 : Addr} {kvs : List (Key × V)} {ws : List V} {d : DevS} (s : Kp F H H') (h : DevA c O H p dx a1 a2 a3 a4 kvs ws d) (n : ∀ b, F b → ¬ DevG p a1 a2 a4 b)
    (f : ∀ a ds, Im H O (DevG p a1 a2 a4) a ds → Im H' O' (DevG p a1 a2 a4) a ds) (g : ∀ b, DevG p a1 a2 a4 b → O' b) : DevA c O' H' p dx a1 a2 a3 a4 kvs ws d where
  o := s.get h.o fun z => n _ z (.inl rfl)
  pg := s.get h.pg fun z => n _ z (.inr (.inl rfl))
  pr := Paired.mono (fun _ _ r => r.im f) h.pr
  wr := s.get h.wr fun z => n _ z (.inr (.inr (.inl rfl)))
  wp := Paired.mono (fun _ _ r => r.im s f) h.wp
  lg := f _ _ h.lg
  st := s.get h.st fun z => n _ z (.inr (.inr (.inr rfl)))
  ne := h.ne
  ow := g
theorem DevA.same {c : Cl} {O : Addr → Prop} {H H' : Hp} {p dx a1 a2 a3 a4 : Addr} {kvs : List (Key × V)} {ws : List V} {d : DevS} (s : Kp F0 H H') (h : DevA c O H p dx a1 a2 a3 a4 kvs ws d) : DevA c O H' p dx a1 a2 a3 a4 kvs ws d := h.im s (fun _ z => z.elim) (fun _ _ i => i.kp s fun _ z => z.elim) h.ow
theorem DevA.own {c : Cl} {O O' : Addr → Prop} {H : Hp} {p dx a1 a2 a3 a4 : Addr} {kvs : List (Key × V)} {ws : List V} {d : DevS} (h : DevA c O H p dx a1 a2 a3 a4 kvs ws d) (n : ∀ b, O b → O' b) : DevA c O' H p dx a1 a2 a3 a4 kvs ws d :=
  h.im (Kp.refl (F := F0) _) (fun _ z => z.elim) (fun _ _ i => ⟨i.1, n _ i.2.1, i.2.2⟩) fun b z => n _ (h.ow b z)
theorem DevAt.off {c : Cl} {F O : Addr → Prop} {H H' : Hp} {p : Addr} {d : DevS} (s : Kp F H H') (h : DevAt c H p O d) (n : ∀ b, F b → ¬ O b) : DevAt c H' p O d := by
  obtain ⟨⟨dx, a1, a2, a3, a4, kvs, ws, D⟩, t⟩ := h
  refine ⟨⟨dx, a1, a2, a3, a4, kvs, ws, D.im s (fun b z g => n b z (D.ow b g)) (fun a ds i => ⟨s.get i.1 fun z => n _ z i.2.1, i.2⟩) D.ow⟩, fun b z => ?_⟩
  obtain ⟨o, ho⟩ := t b z
  exact ⟨o, s.get ho fun y => n b y z⟩
theorem DevAt.same {c : Cl} {H H' : Hp} {p : Addr} {O : Addr → Prop} {d : DevS} (s : Kp F0 H H') (h : DevAt c H p O d) : DevAt c H' p O d := h.off s fun _ z => z.elim
theorem DevAt.fresh {c : Cl} {H : Hp} {p b : Addr} {O : Addr → Prop} {d : DevS} (h : DevAt c H p O d) (hb : H b = none) : ¬ O b := fun z => by
  obtain ⟨o, ho⟩ := h.2 b z
  rw [hb] at ho; cases ho
section
variable {c : Cl} {O : Addr → Prop} {H : Hp} {p dx a1 a2 a3 a4 : Addr} {kvs : List (Key × V)} {ws : List V} {d : DevS}
theorem DevA.n12 (h : DevA c O H p dx a1 a2 a3 a4 kvs ws d) : a1 ≠ a2 := ne_of h.pg h.wr (by intro z; cases z)
theorem DevA.n14 (h : DevA c O H p dx a1 a2 a3 a4 kvs ws d) : a1 ≠ a4 := ne_of h.pg h.st (by intro z; cases z)
theorem DevA.np1 (h : DevA c O H p dx a1 a2 a3 a4 kvs ws d) : p ≠ a1 := ne_of h.o h.pg (by intro z; cases z)
theorem DevA.np2 (h : DevA c O H p dx a1 a2 a3 a4 kvs ws d) : p ≠ a2 := ne_of h.o h.wr (by intro z; cases z)
theorem DevA.np4 (h : DevA c O H p dx a1 a2 a3 a4 kvs ws d) : p ≠ a4 := ne_of h.o h.st (by intro z; cases z)
end
theorem DevAt.opn {c : Cl} {H : Hp} {p : Addr} {O0 : Addr → Prop} {d : DevS} (h : DevAt c H p O0 d) : ∃ (O : Addr → Prop) (dx a1 a2 a3 a4 : Addr) (kvs : List (Key × V)) (ws : List V),
    O = (fun x => O0 x ∨ H x = none) ∧ DevA c O H p dx a1 a2 a3 a4 kvs ws d ∧ ∀ b, DevG p a1 a2 a4 b → O0 b := by
  obtain ⟨⟨dx, a1, a2, a3, a4, kvs, ws, D⟩, _⟩ := h
  exact ⟨_, dx, a1, a2, a3, a4, kvs, ws, rfl, D.own fun _ z => .inl z, D.ow⟩
theorem DevA.clo {c : Cl} {O O0 : Addr → Prop} {H H' : Hp} {p dx a1 a2 a3 a4 : Addr} {kvs : List (Key × V)} {ws : List V} {d : DevS} (D : DevA c O H' p dx a1 a2 a3 a4 kvs ws d) (e : O = fun x => O0 x ∨ H x = none) : DevAt c H' p (nO O0 H H') d := by
  subst e
  refine ⟨⟨dx, a1, a2, a3, a4, kvs, ws, D.im (Kp.refl (F := F0) _) (fun _ z => z.elim) (fun a ds i => ⟨i.1, ⟨i.2.1, _, i.1⟩, i.2.2⟩) fun b z => ⟨D.ow b z, ?_⟩⟩, fun b z => z.2⟩
  rcases z with rfl | rfl | rfl | rfl
  · exact ⟨_, D.o⟩
  · exact ⟨_, D.pg⟩
  · exact ⟨_, D.wr⟩
  · exact ⟨_, D.st⟩
theorem Stp.nO {G O0 : Addr → Prop} {H H' : Hp} (k : Kp G H H') (g : ∀ b, G b → O0 b) : Stp O0 (nO O0 H H') H H' := ⟨k.mono fun b z => .inl (g b z), fun _ z => z.1⟩
section
variable {P : Program} {w : World} {K : PySem.W.Frag} {mg : Str → Option Value} {base : Heap} {c : Cl}
def sp_Device_init (c : Cl) : Sp := fun vs H Q _ => ∃ p dx, vs = [.ref p] ∧ H p = some (.ins c.Device dx []) ∧ ∀ H' O, DevAt c H' p O ⟨[], [], [], [], 0, none⟩ → Kp (F1 p) H H' → (∀ b, O b → b = p ∨ H b = none) → Q .non H'
theorem mk_Device (T : Txt K mg c) : GC P w K mg base CX0 1 "Device" c.Device (sp_Device_init c) := by
  obtain ⟨f, fd, F, gf, gi⟩ := T.f_Device___init__
  have tc := T.cl_Device; have t1 := T.n_Device_pages; have t2 := T.n_Device_page_writes; have t3 := T.n_Device_durable_log; have t4 := T.n_Device_log_steps; have t5 := T.n_Device_done; have t6 := T.n_Device_most
  refine ⟨f, fd, ["self"], F.ok sc_Device___init__ ?_ (fun cdv A outer s H vs Q E hr h => ?_), ⟨T.mk_Device.1, gf, gi, T.mk_Device.2⟩, T.mg_Device, (F.binds (ps := ["self"]) fun _ _ _ _ _ _ us hl => match us, hl with | [_], _ => rfl)⟩
  · rintro vs H Q E ⟨_, _, rfl, _⟩
    rfl
  · obtain ⟨p, dx, rfl, hp, k⟩ := h
    refine ⟨_, (pss_cons (ps_fld (pv 0) pe_dnewK rfl)
      (pss_cons (ps_fld (pv 0) (pe_lst pa_nil) rfl)
      (pss_cons (ps_fld (pv 0) (pe_lst pa_nil) rfl)
      (pss_cons (ps_fld (pv 0) (pe_lst pa_nil) rfl)
      (pss_cons (ps_fld (pv 0) pe_int rfl)
      (pss_one (ps_fld (pv 0) pe_non rfl))))))), ?_⟩
    walk_at "cx"
    walk_at "rd"
    refine x_dnew fun a1 H1 ha1 k1 h1 => ?_
    have n1 : p ≠ a1 := ne_of_none hp ha1
    walk_at "rd"
    intro H2 p2 k2
    have h1' := k2.get h1 n1.symm
    walk_at "rd"
    refine x_newL fun a2 H3 ha2 k3 h2 => ?_
    have n2 : p ≠ a2 := ne_of_none p2 ha2
    have n12 : a1 ≠ a2 := ne_of_none h1' ha2
    walk_at "rd"
    intro H4 p4 k4
    walk_at "rd"
    refine x_newL fun a3 H5 ha3 k5 h3 => ?_
    have n3 : p ≠ a3 := ne_of_none p4 ha3
    have h1d := k4.get (k3.get h1' id) n1.symm
    have h2d := k4.get h2 n2.symm
    have n13 : a1 ≠ a3 := ne_of_none h1d ha3
    have n23 : a2 ≠ a3 := ne_of_none h2d ha3
    walk_at "rd"
    intro H6 p6 k6
    walk_at "rd"
    refine x_newL fun a4 H7 ha4 k7 h4 => ?_
    have n4 : p ≠ a4 := ne_of_none p6 ha4
    have h1f := k6.get (k5.get h1d id) n1.symm
    have h2f := k6.get (k5.get h2d id) n2.symm
    have h3f := k6.get h3 n3.symm
    have n24 : a2 ≠ a4 := ne_of_none h2f ha4
    have n34 : a3 ≠ a4 := ne_of_none h3f ha4
    walk_at "rd"
    intro H8 p8 k8
    walk_at "rd"
    intro H9 p9 k9
    walk_at "rd"
    intro H10 p10 k10
    have kk : ∀ {b o}, H7 b = some o → p ≠ b → H10 b = some o := fun hb n => k10.get (k9.get (k8.get hb n.symm) n.symm) n.symm
    have f2 : H a2 = none := k1.free (k2.free ha2 n2.symm) id
    have f3 : H a3 = none := k1.free (k2.free (k3.free (k4.free ha3 n3.symm) id) n3.symm) id
    have f4 : H a4 = none := k1.free (k2.free (k3.free (k4.free (k5.free (k6.free ha4 n4.symm) id) n4.symm) id) n4.symm) id
    have D : DevA c (fun x => F1 p x ∨ H x = none) H10 p dx a1 a2 a3 a4 [] [] ⟨[], [], [], [], 0, none⟩ := ⟨p10, kk (k7.get h1f id) n1, .nil, kk (k7.get h2f id) n2, .nil, ⟨kk (k7.get h3f id) n3, .inr f3, by
      rintro (z | z | z | z)
      · exact n3 z.symm
      · exact n13 z.symm
      · exact n23 z.symm
      · exact n34 z⟩, kk h4 n4, n24, by
      rintro b (z | z | z | z)
      · exact .inl z
      · exact .inr (by rw [z]; exact ha1)
      · exact .inr (by rw [z]; exact f2)
      · exact .inr (by rw [z]; exact f4)⟩
    refine k H10 _ (D.clo rfl) ?_ fun b z => z.1
    · have e0 : ∀ b, F0 b → F1 p b ∨ H b = none := fun _ z => z.elim
      have e1 : ∀ b, F1 p b → F1 p b ∨ H b = none := fun _ z => .inl z
      exact (((((((((k1.mono e0).trans k2 e1).trans k3 e0).trans k4 e1).trans k5 e0).trans k6 e1).trans k7 e0).trans k8 e1).trans k9 e1).trans k10 e1
theorem DevA.mk' {O : Addr → Prop} {H H' : Hp} {p dx a1 a2 a3 a4 : Addr} {kvs : List (Key × V)} {ws : List V} {d : DevS} {n : Int} {m : Option Int} (h : DevA c O H p dx a1 a2 a3 a4 kvs ws d) (s : Kp (F1 p) H H')
    (o : H' p = some (.ins c.Device dx (F_Device (.ref a1) (.ref a2) (.ref a3) (.ref a4) (.int n) (oV m)))) : DevA c O H' p dx a1 a2 a3 a4 kvs ws { d with done := n, most := m } := by
  have q : ∀ a ds, Im H O (DevG p a1 a2 a4) a ds → Im H' O (DevG p a1 a2 a4) a ds := fun a ds i => i.kp s fun b z => .inl z
  exact ⟨o, s.get h.pg h.np1.symm, Paired.mono (fun _ _ ⟨e, a, ev, i⟩ => ⟨e, a, ev, q _ _ i⟩) h.pr, s.get h.wr h.np2.symm, Paired.mono (fun _ _ ⟨t, a, ev, ht, i⟩ => ⟨t, a, ev, s.tup ht, q _ _ i⟩) h.wp, q _ _ h.lg, s.get h.st h.np4.symm, h.ne, h.ow⟩
def sp_Device_step (c : Cl) : Sp := fun vs H Q E => ∃ O p dx a1 a2 a3 a4 kvs ws d, vs = [.ref p] ∧ DevA c O H p dx a1 a2 a3 a4 kvs ws d ∧
  (can d = true → ∀ H', DevA c O H' p dx a1 a2 a3 a4 kvs ws { d with done := d.done + 1 } → Kp (F1 p) H H' → Q .non H') ∧ (can d = false → E (.ref c.PowerCut) none H)
theorem ok_Device_step (T : Txt K mg c) : GM P w K mg base (L2.CX P w) 1 c.Device "step" (sp_Device_step c) := by
  obtain ⟨f, fd, F, gf, gi⟩ := T.f_Device_step
  have tc := T.cl_Device; have t5 := T.n_Device_done; have t6 := T.n_Device_most
  refine ⟨f, fd, ["self"], F.okX sc_Device_step ?_ (fun cdv A outer s H vs Q E hr h => ?_), ⟨gf, gi, F.kp⟩, (F.binds (ps := ["self"]) fun _ _ _ _ _ _ us hl => match us, hl with | [_], _ => rfl)⟩
  · rintro vs H Q E ⟨_, _, _, _, _, _, _, _, _, _, rfl, _⟩
    rfl
  · obtain ⟨O, p, dx, a1, a2, a3, a4, kvs, ws, d, rfl, D, k, e⟩ := h
    refine ⟨_, (pss_cons (ps_if (PW.pt (pw_and (pt_cmpR o_notN (pe_fldK rfl (pv 0)) pe_non (nomark _)) (pw_and1 (pt_cmpR op_ge (pe_fldK rfl (pv 0)) (pe_fldK rfl (pv 0)) (nomark _))))) (pss_one (ps_raise rfl (takes_of (E := E) rfl rfl rfl rfl) (pmk_X T.ex_PowerCut))) pss_nil)
      (pss_one (ps_fldaug (pv 0) pe_int in_add))), ?_⟩
    walk_at "cx"
    cases hm : d.most with
    | none =>
      have ho : H p = some (.ins c.Device dx (F_Device (.ref a1) (.ref a2) (.ref a3) (.ref a4) (.int d.done) .non)) := by have q := D.o; rw [hm] at q; exact q
      walk_at "rd"
      intro H1 p1 k1
      have q := D.mk' (n := d.done + 1) (m := d.most) k1 (by rw [hm]; exact p1)
      exact k (by unfold can; rw [hm]) H1 q k1
    | some m =>
      have ho : H p = some (.ins c.Device dx (F_Device (.ref a1) (.ref a2) (.ref a3) (.ref a4) (.int d.done) (.int m))) := by have q := D.o; rw [hm] at q; exact q
      walk_at "rd"
      refine ite_dec (fun z => ?_) fun z => ?_
      · refine e ?_
        unfold can; rw [hm]; exact decide_eq_false (by omega)
      · walk_at "rd"
        intro H1 p1 k1
        have q := D.mk' (n := d.done + 1) (m := d.most) k1 (by rw [hm]; exact p1)
        exact k (by unfold can; rw [hm]; exact decide_eq_true (by omega)) H1 q k1
/-- what a raising method of the device promises: op says what it leaves, and whether the power lasts -/
def spD (c : Cl) (H : Hp) (p : Addr) (O : Addr → Prop) (r : DevS × Bool) (Q : Hp → Prop) (E : XK) : Prop :=
  ∀ H' O', DevAt c H' p O' r.1 → Stp O O' H H' → if r.2 = true then Q H' else E (.ref c.PowerCut) none H'
theorem DevG.sub {p a1 a2 a4 : Addr} : ∀ b, F1 p b → DevG p a1 a2 a4 b := fun b z => .inl z
/-- no page is longer than a page -/
def Sz (l : List (Int × List Int)) : Prop := ∀ q ∈ l, q.2.length ≤ 256
theorem aput_sz {l : List (Int × List Int)} {n : Int} {ds : List Int} (h : Sz l) (hd : ds.length ≤ 256) : Sz (aput l n ds) := by
  intro q hq
  unfold aput at hq
  split at hq
  · obtain ⟨r, hr, rfl⟩ := List.mem_map.mp hq
    split
    · exact hd
    · exact h r hr
  · rcases List.mem_append.mp hq with hq | hq
    · exact h q hq
    · rw [List.mem_singleton.mp hq]; exact hd
theorem aget_sz {l : List (Int × List Int)} {n : Int} (h : Sz l) : ((aget l n).getD zeros).length ≤ 256 := by
  unfold aget
  cases e : l.find? fun q => decide (q.1 = n) with
  | none => show zeros.length ≤ 256; unfold zeros; rw [List.length_replicate]; exact Nat.le_refl _
  | some q => exact h q (List.mem_of_find?_eq_some e)
theorem puts_sz : ∀ {ws l : List (Int × List Int)}, Sz l → Sz ws → Sz (ws.foldl (fun l q => aput l q.1 q.2) l)
  | [], _, h, _ => h
  | q :: ws, l, h, hw => puts_sz (ws := ws) (aput_sz h (hw q (by simp))) fun r hr => hw r (List.mem_cons_of_mem _ hr)
theorem dFate_sz {l : List (Int × List Int)} {q : (Int × List Int) × Int} (h : Sz l) (hq : q.1.2.length ≤ 256) : Sz (dFate l q) := by
  unfold dFate
  split
  · exact aput_sz h hq
  · split
    · refine aput_sz h ?_
      have := aget_sz (n := q.1.1) h
      rw [List.length_append, List.length_take, List.length_drop]; omega
    · exact h
theorem dFates_sz : ∀ {ws : List ((Int × List Int) × Int)} {l : List (Int × List Int)}, Sz l → (∀ q ∈ ws, q.1.2.length ≤ 256) → Sz (ws.foldl dFate l)
  | [], _, h, _ => h
  | q :: ws, l, h, hw => dFates_sz (ws := ws) (dFate_sz h (hw q (by simp))) fun r hr => hw r (List.mem_cons_of_mem _ hr)
/-- what a device's state may hold at most -/
def Sml (d : DevS) : Prop := d.writes.length ≤ 1000000 ∧ d.pages.length + d.writes.length ≤ 2000000 ∧ d.log.length + d.steps.length ≤ 8000000 ∧ Sz d.pages ∧ Sz d.writes
theorem F1.g {p a1 a2 a4 : Addr} {H : Hp} : ∀ b, F1 p b → DevG p a1 a2 a4 b ∨ H b = none := fun b z => .inl (.inl z)
theorem spD.yes {H : Hp} {p : Addr} {O : Addr → Prop} {d : DevS} {fn : DevS → DevS} {Q : Hp → Prop} {E : XK} (k : spD c H p O (pw d fn) Q E) (hc : can d = true) {H' : Hp} {O' : Addr → Prop} (D : DevAt c H' p O' (fn { d with done := d.done + 1 })) (s : Stp O O' H H') : Q H' := by
  unfold spD pw at k
  rw [if_pos hc] at k
  have q := k H' O' D s
  rw [if_pos rfl] at q
  exact q
theorem spD.no {H : Hp} {p : Addr} {O : Addr → Prop} {d : DevS} {fn : DevS → DevS} {Q : Hp → Prop} {E : XK} (k : spD c H p O (pw d fn) Q E) (hc : can d = false) (D : DevAt c H p O d) : E (.ref c.PowerCut) none H := by
  unfold spD pw at k
  rw [if_neg (by rw [hc]; exact Bool.false_ne_true)] at k
  have q := k H O D (Stp.refl _ _)
  rw [if_neg (by exact Bool.false_ne_true)] at q
  exact q
/-- a fresh object is none of the footprint -/
theorem DevA.fresh {O : Addr → Prop} {H : Hp} {p dx a1 a2 a3 a4 b : Addr} {kvs : List (Key × V)} {ws : List V} {d : DevS} (D : DevA c O H p dx a1 a2 a3 a4 kvs ws d) (hb : H b = none) : ¬ DevG p a1 a2 a4 b := by
  rintro (z | z | z | z)
  · exact ne_of_none D.o hb z.symm
  · exact ne_of_none D.pg hb z.symm
  · exact ne_of_none D.wr hb z.symm
  · exact ne_of_none D.st hb z.symm
theorem DevA.trk {O : Addr → Prop} {H : Hp} {p dx a1 a2 a3 a4 b : Addr} {kvs : List (Key × V)} {ws : List V} {d : DevS} (D : DevA c O H p dx a1 a2 a3 a4 kvs ws d) (g : DevG p a1 a2 a4 b) : ∃ o, H b = some o := by
  rcases g with rfl | rfl | rfl | rfl
  · exact ⟨_, D.o⟩
  · exact ⟨_, D.pg⟩
  · exact ⟨_, D.wr⟩
  · exact ⟨_, D.st⟩
def sp_Device_write_page (c : Cl) (K : PySem.W.Frag) : Sp := fun vs H Q E => ∃ p O d n l ds, vs = [.ref p, .int n, .ref l] ∧ DevAt c H p O d ∧ SqL K H l (ds.map V.int) ∧ ¬ O l ∧ Sml d ∧ spD c H p O (dWrite n ds d) (Q .non) E
theorem ok_Device_write_page (T : Txt K mg c) : GM P w K mg base (L2.CX P w) 2 c.Device "write_page" (sp_Device_write_page c K) := by
  obtain ⟨f, fd, F, gf, gi⟩ := T.f_Device_write_page
  have tc_Device := T.cl_Device; have tn_Device_pages := T.n_Device_pages; have tn_Device_page_writes := T.n_Device_page_writes; have tn_Device_durable_log := T.n_Device_durable_log; have tn_Device_log_steps := T.n_Device_log_steps; have tn_Device_done := T.n_Device_done; have tn_Device_most := T.n_Device_most
  refine ⟨f, fd, ["self", "number", "data"], F.okX sc_Device_write_page ?_ (fun cdv A outer s H vs Q E hr h => ?_), ⟨gf, gi, F.kp⟩, (F.binds (ps := ["self", "number", "data"]) fun _ _ _ _ _ _ us hl => match us, hl with | [_, _, _], _ => rfl)⟩
  · rintro vs H Q E ⟨_, _, _, _, _, _, rfl, _⟩
    rfl
  · obtain ⟨p, O0, d, n, l, ds, rfl, hD, hl, nl, sm, k⟩ := h
    obtain ⟨O, dx, a1, a2, a3, a4, kvs, ws, eO, D, og⟩ := hD.opn
    have fr : ∀ {x}, H x = none → O x := fun h => by rw [eO]; exact .inr h
    have ho := D.o
    refine ⟨_, (pss_cons (ps_expr (pe_gm0 T.cl_Device (ok_Device_step T) (pv 0) (hr.mono (by decide)) (passE (E := E) rfl rfl rfl rfl)))
      (pss_one (ps_expr (pe_kBM rfl (pe_bm PySem.F.plainAttrs_list PySem.F.slot_list_append PySem.F.type_list_append mt_append (pe_fldK rfl (pv 0)) (pa_cons (pe_tup (pa_cons (pv 1) (pa_cons (pe_callTy (r := rLstQ K) c_list (by rfl) T.z_list (by decide +kernel) (pa_cons (pv 2) pa_nil)) pa_nil))) pa_nil)))))), ?_⟩
    walk_at "cx"
    walk_at "rd"
    refine ⟨O, p, dx, a1, a2, a3, a4, kvs, ws, d, rfl, D, fun hc H1 D1 k1 => ?_, fun hc => k.no hc hD⟩
    have ho1 := D1.o
    have hw1 := D1.wr
    walk_at "rd"
    refine x_lstL (k1.sqL hl fun z => nl (og _ (.inl z))) fun b H2 hb k2 hb2 => ?_
    walk_at "rd"
    refine x_newT fun t H3 ht k3 ht3 => ?_
    walk_at "rd"
    have D3 := (D1.same k2).same k3
    have lw : ws.length = d.writes.length := D.wp.length
    refine x_app D3.wr (by have := sm.1; omega) fun H4 hw4 k4 => ?_
    have nb := D1.fresh hb
    have sub : ∀ x, F1 a2 x → DevG p a1 a2 a4 x := fun x z => .inr (.inr (.inl z))
    have D4 : DevA c O H4 p dx a1 a2 a3 a4 kvs (ws ++ [.ref t]) { d with writes := d.writes ++ [(n, ds)], done := d.done + 1 } :=
      ⟨k4.get D3.o D3.np2, k4.get D3.pg D3.n12, Paired.mono (fun _ _ r => r.kp k4 sub) D3.pr, hw4, (Paired.mono (fun _ _ r => r.kp k4 sub) D3.wp).snoc ⟨t, b, rfl, k4.tup ht3, k4.get (k3.get hb2 id) fun z => nb (sub b z), fr (k1.free hb fun z => nb (.inl z)), nb⟩, D3.lg.kp k4 sub, k4.get D3.st D3.ne.symm, D3.ne, D3.ow⟩
    exact k.yes hc (D4.clo eO) (Stp.nO (G := DevG p a1 a2 a4) (((k1.mono F1.g).trans k2 fun _ z => z.elim).trans k3 (fun _ z => z.elim) |>.trans k4 fun b z => .inl (.inr (.inr (.inl z)))) og)
theorem any_pr {R : Key × V → Int × List Int → Prop} (hR : ∀ p q, R p q → p.1 = .inl q.1) (n : Int) : ∀ {kvs : List (Key × V)} {l : List (Int × List Int)}, Paired R kvs l → (kvs.any fun kv => decide (kv.1 = .inl n)) = l.any fun q => decide (q.1 = n)
  | _, _, .nil => rfl
  | _, _, .cons (a := p) (b := q) h t => by
    rw [List.any_cons, List.any_cons, any_pr hR n t, hR p q h]
    congr 1
    exact decide_eq_decide.mpr ⟨fun e => Sum.inl.inj e, fun e => by rw [e]⟩
theorem map_pr {R : Key × V → Int × List Int → Prop} (hR : ∀ p q, R p q → p.1 = .inl q.1) {n : Int} {v : V} {ds : List Int} (h : R (.inl n, v) (n, ds)) : ∀ {kvs : List (Key × V)} {l : List (Int × List Int)}, Paired R kvs l →
    Paired R (kvs.map fun kv => if kv.1 = .inl n then (kv.1, v) else kv) (l.map fun q => if q.1 = n then (q.1, ds) else q)
  | _, _, .nil => .nil
  | _, _, .cons (a := p) (b := q) r t => by
    refine .cons ?_ (map_pr hR h t)
    have e := hR p q r
    show R (if p.1 = .inl n then (p.1, v) else p) (if q.1 = n then (q.1, ds) else q)
    by_cases z : q.1 = n
    · rw [if_pos (by rw [e, z]), if_pos z, e, z]; exact h
    · rw [if_neg (by rw [e]; exact fun w => z (Sum.inl.inj w)), if_neg z]; exact r
theorem put_pr {R : Key × V → Int × List Int → Prop} (hR : ∀ p q, R p q → p.1 = .inl q.1) {n : Int} {v : V} {ds : List Int} (h : R (.inl n, v) (n, ds)) {kvs : List (Key × V)} {l : List (Int × List Int)} (t : Paired R kvs l) : Paired R (putK kvs (.inl n) v) (aput l n ds) := by
  unfold putK aput
  rw [any_pr hR n t]
  split
  · exact map_pr hR h t
  · exact t.snoc h
theorem get_pr {R : Key × V → Int × List Int → Prop} (hR : ∀ p q, R p q → p.1 = .inl q.1) (n : Int) : ∀ {kvs : List (Key × V)} {l : List (Int × List Int)}, Paired R kvs l →
    (valV kvs (.inl n) = none ∧ aget l n = none) ∨ ∃ v ds, valV kvs (.inl n) = some v ∧ aget l n = some ds ∧ R (.inl n, v) (n, ds)
  | _, _, .nil => .inl ⟨rfl, rfl⟩
  | _, _, .cons (a := p) (b := q) (l₁ := kvs) (l₂ := l) r t => by
    have e := hR p q r
    by_cases z : q.1 = n
    · refine .inr ⟨p.2, q.2, valV_pos (by rw [e, z]), ?_, ?_⟩
      · unfold aget
        rw [List.find?_cons_of_pos (by exact decide_eq_true z)]; rfl
      · have : p = (.inl n, p.2) := by rw [← z, ← e]
        have e2 : q = (n, q.2) := by rw [← z]
        rw [← this, ← e2]; exact r
    · have h1 : valV (p :: kvs) (.inl n) = valV kvs (.inl n) := valV_neg (by rw [e]; exact fun w => z (Sum.inl.inj w))
      have h2 : aget (q :: l) n = aget l n := by
        unfold aget
        rw [List.find?_cons_of_neg (by simpa using z)]
      rw [h1, h2]
      exact get_pr hR n t
theorem RPg.key {H : Hp} {O G : Addr → Prop} : ∀ p q, RPg H O G p q → p.1 = .inl q.1 := fun _ _ h => h.1
theorem aput_len (l : List (Int × List Int)) (n : Int) (v : List Int) : (aput l n v).length ≤ l.length + 1 := by
  unfold aput; split
  · rw [List.length_map]; omega
  · rw [List.length_append]; exact Nat.le_refl _
theorem puts_len : ∀ (l : List (Int × List Int)) (pages : List (Int × List Int)), (l.foldl (fun l q => aput l q.1 q.2) pages).length ≤ pages.length + l.length
  | [], _ => Nat.le_refl _
  | q :: l, pages => by
    have h1 := puts_len l (aput pages q.1 q.2)
    have h2 := aput_len pages q.1 q.2
    show (l.foldl (fun l q => aput l q.1 q.2) (aput pages q.1 q.2)).length ≤ pages.length + (l.length + 1)
    omega
theorem pget {α β : Type} {R : α → β → Prop} : ∀ {l : List α} {m : List β} {i : Nat} {x : α}, Paired R l m → l[i]? = some x → ∃ y, m[i]? = some y ∧ R x y
  | _, _, 0, _, .cons h _, e => by cases (Option.some.inj e); exact ⟨_, rfl, h⟩
  | _, _, i + 1, _, .cons _ t, e => pget (i := i) t e
  | _, _, _, _, .nil, e => by simp at e
def sp_Device_sync_pages (c : Cl) : Sp := fun vs H Q E => ∃ p O d, vs = [.ref p] ∧ DevAt c H p O d ∧ Sml d ∧ spD c H p O (dSyncP d) (Q .non) E
theorem ok_Device_sync_pages (T : Txt K mg c) : GM P w K mg base (L2.CX P w) 2 c.Device "sync_pages" (sp_Device_sync_pages c) := by
  obtain ⟨f, fd, F, gf, gi⟩ := T.f_Device_sync_pages
  have tc_Device := T.cl_Device; have tn_Device_pages := T.n_Device_pages; have tn_Device_page_writes := T.n_Device_page_writes; have tn_Device_durable_log := T.n_Device_durable_log; have tn_Device_log_steps := T.n_Device_log_steps; have tn_Device_done := T.n_Device_done; have tn_Device_most := T.n_Device_most
  refine ⟨f, fd, ["self"], F.okX sc_Device_sync_pages ?_ (fun cdv A outer s H vs Q E hr h => ?_), ⟨gf, gi, F.kp⟩, (F.binds (ps := ["self"]) fun _ _ _ _ _ _ us hl => match us, hl with | [_], _ => rfl)⟩
  · rintro vs H Q E ⟨_, _, _, rfl, _⟩
    rfl
  · obtain ⟨p, O0, d, rfl, hD, sm, k⟩ := h
    obtain ⟨O, dx, a1, a2, a3, a4, kvs, ws, eO, D, og⟩ := hD.opn
    have fr : ∀ {x}, H x = none → O x := fun h => by rw [eO]; exact .inr h
    have ho := D.o
    refine ⟨_, (pss_cons (ps_expr (pe_gm0 T.cl_Device (ok_Device_step T) (pv 0) (hr.mono (by decide)) (passE (E := E) rfl rfl rfl rfl)))
      (pss_cons (ps_for (passes_of rfl) rfl (pi_listK rfl (pe_fldK rfl (pv 0))) (pg_kT rfl (pg_tup (n := 2) rfl (pgs_cons (pg_name (i := 1) sc_Device_sync_pages.nd rfl (Or.inl rfl)) (pgs_cons (pg_name (i := 2) sc_Device_sync_pages.nd rfl (Or.inl rfl)) pgs_nil)))) (pss_one (ps_dput (hu_of hr) (pe_fldK rfl (pv 0)) (pv 1) (pv 2) rfl)))
      (pss_one (ps_fld (pv 0) (pe_lst pa_nil) rfl)))), ?_⟩
    walk_at "cx"
    walk_at "rd"
    refine ⟨O, p, dx, a1, a2, a3, a4, kvs, ws, d, rfl, D, fun hc H1 D1 k1 => ?_, fun hc => k.no hc hD⟩
    have ho1 := D1.o
    have hw1 := D1.wr
    walk_at "rd"
    refine wfor Wk.list (fun i σ H' => ∃ kvs' u v, σ = [some (.ref p), u, v] ∧ DevA c O H' p dx a1 a2 a3 a4 kvs' ws { d with pages := (d.writes.take i).foldl (fun l q => aput l q.1 q.2) d.pages, done := d.done + 1 } ∧ Kp (DevG p a1 a2 a4) H H')
      ⟨kvs, none, none, rfl, D1, k1.mono F1.g⟩ (fun i σ H' ⟨_, _, _, _, D', _⟩ => SqL.of D'.wr) ?_ ?_
    · rintro i x σ H2 ex ⟨kvs', u, v, rfl, D2, kk⟩
      obtain ⟨q, eq, t, a, rfl, ht, hi⟩ := pget D2.wp ex
      have ho2 := D2.o
      have hp2 := D2.pg
      have eq' : d.writes[i]? = some q := eq
      have hl : kvs'.length = ((d.writes.take i).foldl (fun l q => aput l q.1 q.2) d.pages).length := D2.pr.length
      have hl2 := puts_len (d.writes.take i) d.pages
      have hl3 : (d.writes.take i).length ≤ d.writes.length := by rw [List.length_take]; omega
      walk_at "rd"
      refine x_dpI hp2 (by have := sm.1; have := sm.2.1; omega) fun H3 hp3 k3 => ?_
      have sub : ∀ x, F1 a1 x → DevG p a1 a2 a4 x := fun x z => .inr (.inl z)
      refine ⟨putK kvs' (.inl q.1) (.ref a), _, _, rfl, ?_, kk.trans k3 fun x z => .inl (sub x z)⟩
      have e : (d.writes.take (i + 1)).foldl (fun l q => aput l q.1 q.2) d.pages = aput ((d.writes.take i).foldl (fun l q => aput l q.1 q.2) d.pages) q.1 q.2 := by
        rw [List.take_succ, eq', List.foldl_append]; rfl
      rw [e]
      exact ⟨k3.get D2.o D2.np1, hp3, put_pr RPg.key ⟨rfl, a, rfl, hi.kp k3 sub⟩ (Paired.mono (fun _ _ r => r.kp k3 sub) D2.pr), k3.get D2.wr D2.n12.symm, Paired.mono (fun _ _ r => r.kp k3 sub) D2.wp, D2.lg.kp k3 sub, k3.get D2.st D2.n14.symm, D2.ne, D2.ow⟩
    · rintro σ H2 ⟨kvs', u, v, rfl, D2, kk⟩
      have lw : ws.length = d.writes.length := D.wp.length
      rw [lw, List.take_length] at D2
      have ho2 := D2.o
      walk_at "rd"
      refine x_newL fun b H3 hb k3 hb3 => ?_
      have D3 := D2.same k3
      have ho3 := D3.o
      walk_at "rd"
      intro H4 p4 k4
      have nb := D2.fresh hb
      have nbp : b ≠ p := fun z => nb (.inl z)
      have nb1 : b ≠ a1 := fun z => nb (.inr (.inl z))
      have nb4 : b ≠ a4 := fun z => nb (.inr (.inr (.inr z)))
      have k24 : Kp (DevG p a1 a2 a4) H2 H4 := (k3.mono fun _ z => z.elim).trans k4 fun x z => .inl (.inl z)
      have im : ∀ a ds, Im H2 O (DevG p a1 a2 a4) a ds → Im H4 O (DevG p a1 b a4) a ds := fun a ds i => ⟨k24.get i.1 i.2.2, i.2.1, by
        rintro (z | z | z | z)
        · exact i.2.2 (.inl z)
        · exact i.2.2 (.inr (.inl z))
        · exact ne_of_none i.1 hb z
        · exact i.2.2 (.inr (.inr (.inr z)))⟩
      have D4 : DevA c O H4 p dx a1 b a3 a4 kvs' [] { d with pages := d.writes.foldl (fun l q => aput l q.1 q.2) d.pages, writes := [], done := d.done + 1 } :=
        ⟨p4, k4.get D3.pg D3.np1.symm, Paired.mono (fun _ _ r => r.im im) D2.pr, k4.get hb3 nbp, .nil, im _ _ D2.lg, k4.get D3.st D3.np4.symm, nb4, by
          rintro x (z | z | z | z)
          · exact D.ow _ (.inl z)
          · exact D.ow _ (.inr (.inl z))
          · rw [z]; exact fr (kk.free hb nb)
          · exact D.ow _ (.inr (.inr (.inr z)))⟩
      exact k.yes hc (D4.clo eO) (Stp.nO (G := DevG p a1 a2 a4) (kk.trans k24 fun _ z => .inl z) og)
/-- one more step of the log -/
theorem DevA.byte {O : Addr → Prop} {H H' : Hp} {p dx a1 a2 a3 a4 : Addr} {kvs : List (Key × V)} {ws : List V} {d : DevS} {b : Option Int} (D : DevA c O H p dx a1 a2 a3 a4 kvs ws d) (k4 : Kp (F1 a4) H H') (h : H' a4 = some (.lst (d.steps.map oV ++ [oV b]))) : DevA c O H' p dx a1 a2 a3 a4 kvs ws { d with steps := d.steps ++ [b] } := by
  have sub : ∀ x, F1 a4 x → DevG p a1 a2 a4 x := fun x z => .inr (.inr (.inr z))
  exact ⟨k4.get D.o D.np4, k4.get D.pg D.n14, Paired.mono (fun _ _ r => r.kp k4 sub) D.pr, k4.get D.wr D.ne, Paired.mono (fun _ _ r => r.kp k4 sub) D.wp, D.lg.kp k4 sub, by rw [h]; simp, D.ne, D.ow⟩
def sp_Device_append (c : Cl) (K : PySem.W.Frag) : Sp := fun vs H Q E => ∃ p O d l bs, vs = [.ref p, .ref l] ∧ DevAt c H p O d ∧ SqL K H l (bs.map V.int) ∧ ¬ O l ∧ Sml d ∧ bs.length ≤ 8000000 ∧ spD c H p O (dApp bs d) (Q .non) E
theorem dApp_app : ∀ (bs : List Int) (d : DevS) (b : Int), (dApp bs d).2 = true → dApp (bs ++ [b]) d = dByte (some b) (dApp bs d).1
  | [], d, b, _ => by
    show (if (dByte (some b) d).2 = true then ((dByte (some b) d).1, true) else (d, false)) = dByte (some b) d
    unfold dByte pw
    by_cases h : can d = true
    · rw [if_pos h, if_pos rfl]
    · rw [if_neg h, if_neg Bool.false_ne_true]
  | x :: bs, d, b, h => by
    show (if (dByte (some x) d).2 = true then dApp (bs ++ [b]) (dByte (some x) d).1 else (d, false)) = _
    by_cases q : (dByte (some x) d).2 = true
    · have e : dApp (x :: bs) d = dApp bs (dByte (some x) d).1 := by show (if _ then _ else _) = _; rw [if_pos q]
      rw [if_pos q, e]
      rw [e] at h
      exact dApp_app bs _ b h
    · have e : dApp (x :: bs) d = (d, false) := by show (if _ then _ else _) = _; rw [if_neg q]
      rw [e] at h
      cases h
theorem dApp_stop : ∀ (bs cs : List Int) (d : DevS) (b : Int), (dApp bs d).2 = true → can (dApp bs d).1 = false → dApp (bs ++ b :: cs) d = ((dApp bs d).1, false)
  | [], cs, d, b, _, h => by
    show (if (dByte (some b) d).2 = true then _ else (d, false)) = (d, false)
    have : (dByte (some b) d).2 = false := by unfold dByte pw; rw [if_neg (by rw [show can d = false from h]; exact Bool.false_ne_true)]
    rw [this]; rfl
  | x :: bs, cs, d, b, h, g => by
    show (if (dByte (some x) d).2 = true then dApp (bs ++ b :: cs) (dByte (some x) d).1 else (d, false)) = _
    by_cases q : (dByte (some x) d).2 = true
    · have e : dApp (x :: bs) d = dApp bs (dByte (some x) d).1 := by show (if _ then _ else _) = _; rw [if_pos q]
      rw [if_pos q, e]
      rw [e] at h g
      exact dApp_stop bs cs _ b h g
    · have e : dApp (x :: bs) d = (d, false) := by show (if _ then _ else _) = _; rw [if_neg q]
      rw [e] at h
      cases h
theorem dByte_steps (b : Option Int) (d : DevS) : (dByte b d).1.steps.length ≤ d.steps.length + 1 := by
  unfold dByte pw; split
  · show (d.steps ++ [b]).length ≤ _; rw [List.length_append]; exact Nat.le_refl _
  · exact Nat.le_succ _
theorem dApp_steps : ∀ (bs : List Int) (d : DevS), (dApp bs d).1.steps.length ≤ d.steps.length + bs.length
  | [], _ => Nat.le_refl _
  | x :: bs, d => by
    show (if (dByte (some x) d).2 = true then dApp bs (dByte (some x) d).1 else (d, false)).1.steps.length ≤ d.steps.length + (bs.length + 1)
    have h1 := dApp_steps bs (dByte (some x) d).1
    have h2 := dByte_steps (some x) d
    split
    · omega
    · show d.steps.length ≤ _; omega
theorem ok_Device_append (T : Txt K mg c) : GM P w K mg base (L2.CX P w) 2 c.Device "append" (sp_Device_append c K) := by
  obtain ⟨f, fd, F, gf, gi⟩ := T.f_Device_append
  have tc_Device := T.cl_Device; have tn_Device_pages := T.n_Device_pages; have tn_Device_page_writes := T.n_Device_page_writes; have tn_Device_durable_log := T.n_Device_durable_log; have tn_Device_log_steps := T.n_Device_log_steps; have tn_Device_done := T.n_Device_done; have tn_Device_most := T.n_Device_most
  refine ⟨f, fd, ["self", "data"], F.okX sc_Device_append ?_ (fun cdv A outer s H vs Q E hr h => ?_), ⟨gf, gi, F.kp⟩, (F.binds (ps := ["self", "data"]) fun _ _ _ _ _ _ us hl => match us, hl with | [_, _], _ => rfl)⟩
  · rintro vs H Q E ⟨_, _, _, _, _, rfl, _⟩
    rfl
  · obtain ⟨p, O0, d, l, bs, rfl, hD, hl, nl, sm, hz, k⟩ := h
    obtain ⟨O, dx, a1, a2, a3, a4, kvs, ws, eO, D, og⟩ := hD.opn
    have fr : ∀ {x}, H x = none → O x := fun h => by rw [eO]; exact .inr h
    have ho := D.o
    refine ⟨_, (pss_one (ps_for (passes_of rfl) rfl (pi_listK rfl (pv 1)) (pg_name (i := 2) sc_Device_append.nd rfl (Or.inl rfl)) (pss_cons (ps_expr (pe_gm0 T.cl_Device (ok_Device_step T) (pv 0) (hr.mono (by decide)) (passE (E := E) rfl rfl rfl rfl)))
      (pss_one (ps_expr (pe_kBM rfl (pe_bm PySem.F.plainAttrs_list PySem.F.slot_list_append PySem.F.type_list_append mt_append (pe_fldK rfl (pv 0)) (pa_cons (pv 2) pa_nil)))))))), ?_⟩
    walk_at "cx"
    walk_at "rd"
    refine wfor Wk.list (fun i σ H' => ∃ u, σ = [some (.ref p), some (.ref l), u] ∧ (dApp (bs.take i) d).2 = true ∧ DevA c O H' p dx a1 a2 a3 a4 kvs ws (dApp (bs.take i) d).1 ∧ Kp (DevG p a1 a2 a4) H H')
      ⟨none, rfl, rfl, D, Kp.refl _⟩ (fun i σ H' ⟨_, _, _, _, kk⟩ => kk.sqL hl fun z => nl (og _ z)) ?_ ?_
    · rintro i x σ H2 ex ⟨u, rfl, hb, D2, kk⟩
      have eb : ∃ b, bs[i]? = some b ∧ x = .int b := by
        rw [List.getElem?_map] at ex
        cases q : bs[i]? with
        | none => rw [q] at ex; cases ex
        | some z => rw [q] at ex; exact ⟨z, rfl, (Option.some.inj ex).symm⟩
      obtain ⟨b, eb, rfl⟩ := eb
      have ho2 := D2.o
      have tk : bs.take (i + 1) = bs.take i ++ [b] := by rw [List.take_succ, eb]; rfl
      walk_at "rd"
      refine ⟨O, p, dx, a1, a2, a3, a4, kvs, ws, _, rfl, D2, fun hc H3 D3 k3 => ?_, fun hc => ?_⟩
      · have ho3 := D3.o
        have hs3 := D3.st
        walk_at "rd"
        refine x_app hs3 (by
          have h1 := dApp_steps (bs.take i) d
          have h2 : (bs.take i).length ≤ bs.length := by rw [List.length_take]; omega
          have h3 := sm.2.2.1
          rw [List.length_map]
          show (dApp (bs.take i) d).1.steps.length < 16777216
          omega) fun H4 h4 k4 => ?_
        have e := dApp_app (bs.take i) d b hb
        rw [tk, e]
        have D4 := D3.byte (b := some b) k4 h4
        refine ⟨_, rfl, ?_, ?_, (kk.trans (k3.mono F1.g) fun x z => .inl z).trans k4 fun x z => .inl (.inr (.inr (.inr z)))⟩
        · unfold dByte pw; rw [if_pos hc]
        · unfold dByte pw; rw [if_pos hc]; exact D4
      · have e : dApp bs d = ((dApp (bs.take i) d).1, false) := by
          have q := dApp_stop (bs.take i) (bs.drop (i + 1)) d b hb hc
          have hi : i < bs.length := (List.getElem?_eq_some_iff.mp eb).1
          have hbi : bs[i] = b := (List.getElem?_eq_some_iff.mp eb).2
          rw [← hbi, ← List.drop_eq_getElem_cons hi, List.take_append_drop] at q
          exact q
        have q := k H2 _ (by rw [e]; exact D2.clo eO) (Stp.nO kk og)
        rw [e, if_neg (by exact Bool.false_ne_true)] at q
        exact q
    · rintro σ H2 ⟨u, rfl, hb, D2, kk⟩
      rw [List.length_map, List.take_length] at hb D2
      have q := k H2 _ (D2.clo eO) (Stp.nO kk og)
      rw [if_pos hb] at q
      exact q
def sp_Device_clear (c : Cl) : Sp := fun vs H Q E => ∃ p O d, vs = [.ref p] ∧ DevAt c H p O d ∧ Sml d ∧ spD c H p O (dByte none d) (Q .non) E
theorem ok_Device_clear (T : Txt K mg c) : GM P w K mg base (L2.CX P w) 2 c.Device "clear" (sp_Device_clear c) := by
  obtain ⟨f, fd, F, gf, gi⟩ := T.f_Device_clear
  have tc_Device := T.cl_Device; have tn_Device_pages := T.n_Device_pages; have tn_Device_page_writes := T.n_Device_page_writes; have tn_Device_durable_log := T.n_Device_durable_log; have tn_Device_log_steps := T.n_Device_log_steps; have tn_Device_done := T.n_Device_done; have tn_Device_most := T.n_Device_most
  refine ⟨f, fd, ["self"], F.okX sc_Device_clear ?_ (fun cdv A outer s H vs Q E hr h => ?_), ⟨gf, gi, F.kp⟩, (F.binds (ps := ["self"]) fun _ _ _ _ _ _ us hl => match us, hl with | [_], _ => rfl)⟩
  · rintro vs H Q E ⟨_, _, _, rfl, _⟩
    rfl
  · obtain ⟨p, O0, d, rfl, hD, sm, k⟩ := h
    obtain ⟨O, dx, a1, a2, a3, a4, kvs, ws, eO, D, og⟩ := hD.opn
    have fr : ∀ {x}, H x = none → O x := fun h => by rw [eO]; exact .inr h
    have ho := D.o
    refine ⟨_, (pss_cons (ps_expr (pe_gm0 T.cl_Device (ok_Device_step T) (pv 0) (hr.mono (by decide)) (passE (E := E) rfl rfl rfl rfl)))
      (pss_one (ps_expr (pe_kBM rfl (pe_bm PySem.F.plainAttrs_list PySem.F.slot_list_append PySem.F.type_list_append mt_append (pe_fldK rfl (pv 0)) (pa_cons pe_non pa_nil)))))), ?_⟩
    walk_at "cx"
    walk_at "rd"
    refine ⟨O, p, dx, a1, a2, a3, a4, kvs, ws, d, rfl, D, fun hc H1 D1 k1 => ?_, fun hc => k.no hc hD⟩
    have ho1 := D1.o
    have hs1 := D1.st
    walk_at "rd"
    refine x_app hs1 (by rw [List.length_map]; have := sm.2.2.1; show d.steps.length < _; omega) fun H4 h4 k4 => ?_
    exact k.yes hc ((D1.byte (b := none) k4 h4).clo eO) (Stp.nO (G := DevG p a1 a2 a4) ((k1.mono F1.g).trans k4 fun x z => .inl (.inr (.inr (.inr z)))) og)
def sp_Device_log (c : Cl) : Sp := fun vs H Q _ => ∃ p O d, vs = [.ref p] ∧ DevAt c H p O d ∧ Sml d ∧ ∀ b H', H b = none → Kp F0 H H' → H' b = some (.lst ((clog d).map V.int)) → Q (.ref b) H'
theorem lstep_len (l : List Int) (o : Option Int) : (lstep l o).length ≤ l.length + 1 := by
  cases o with
  | none => exact Nat.zero_le _
  | some b => show (l ++ [b]).length ≤ _; rw [List.length_append]; exact Nat.le_refl _
theorem lsteps_len : ∀ (os : List (Option Int)) (l : List Int), (os.foldl lstep l).length ≤ l.length + os.length
  | [], _ => Nat.le_refl _
  | o :: os, l => by
    have h1 := lsteps_len os (lstep l o)
    have h2 := lstep_len l o
    show (os.foldl lstep (lstep l o)).length ≤ l.length + (os.length + 1)
    omega
theorem ok_Device_log (T : Txt K mg c) : GM P w K mg base CX0 1 c.Device "log" (sp_Device_log c) := by
  obtain ⟨f, fd, F, gf, gi⟩ := T.f_Device_log
  have tc_Device := T.cl_Device; have tn_Device_pages := T.n_Device_pages; have tn_Device_page_writes := T.n_Device_page_writes; have tn_Device_durable_log := T.n_Device_durable_log; have tn_Device_log_steps := T.n_Device_log_steps; have tn_Device_done := T.n_Device_done; have tn_Device_most := T.n_Device_most
  refine ⟨f, fd, ["self"], F.ok sc_Device_log ?_ (fun cdv A outer s H vs Q E hr h => ?_), ⟨gf, gi, F.kp⟩, (F.binds (ps := ["self"]) fun _ _ _ _ _ _ us hl => match us, hl with | [_], _ => rfl)⟩
  · rintro vs H Q E ⟨_, _, _, rfl, _⟩
    rfl
  · obtain ⟨p, O0, d, rfl, hD, sm, k⟩ := h
    obtain ⟨O, dx, a1, a2, a3, a4, kvs, ws, eO, D, og⟩ := hD.opn
    have fr : ∀ {x}, H x = none → O x := fun h => by rw [eO]; exact .inr h
    have ho := D.o
    have hs := D.st
    refine ⟨_, (pss_cons (ps_set (i := 1) sc_Device_log.nd rfl (Or.inl rfl) (pe_callTy (r := rLstQ K) c_list (by rfl) T.z_list (by decide +kernel) (pa_cons (pe_fldK rfl (pv 0)) pa_nil)))
      (pss_cons (ps_for PassesOwn.never rfl (pi_listK rfl (pe_fldK rfl (pv 0))) (pg_name (i := 2) sc_Device_log.nd rfl (Or.inl rfl)) (pss_one (ps_if (pt_cmpR o_isN (pv 2) pe_non (nomark _)) (pss_one (ps_set (i := 1) sc_Device_log.nd rfl (Or.inl rfl) (pe_lst pa_nil))) (pss_one (ps_expr (pe_kBM rfl (pe_bm PySem.F.plainAttrs_list PySem.F.slot_list_append PySem.F.type_list_append mt_append (pv 1) (pa_cons (pv 2) pa_nil))))))))
      (pss_one (ps_ret (pv 1))))), ?_⟩
    walk_at "cx"
    walk_at "rd"
    refine x_lstL (SqL.of D.lg.1) fun b H1 hb k1 hb1 => ?_
    have ho1 := k1.get ho id
    have hs1 := k1.get hs id
    walk_at "rd"
    refine wfor Wk.list (fun i σ H' => ∃ b u, σ = [some (.ref p), some (.ref b), u] ∧ H' b = some (.lst (((d.steps.take i).foldl lstep d.log).map V.int)) ∧ H b = none ∧ Kp F0 H H')
      ⟨b, none, rfl, hb1, hb, k1⟩ (fun i σ H' ⟨_, _, _, _, _, kk⟩ => SqL.of (kk.get hs id)) ?_ ?_
    · rintro i x σ H2 ex ⟨b, u, rfl, hb2, hb0, kk⟩
      have e : ∃ o, d.steps[i]? = some o ∧ x = oV o := by
        rw [List.getElem?_map] at ex
        cases q : d.steps[i]? with
        | none => rw [q] at ex; cases ex
        | some z => rw [q] at ex; exact ⟨z, rfl, (Option.some.inj ex).symm⟩
      obtain ⟨o, eo, rfl⟩ := e
      have tk : (d.steps.take (i + 1)).foldl lstep d.log = lstep ((d.steps.take i).foldl lstep d.log) o := by rw [List.take_succ, eo, List.foldl_append]; rfl
      have ll := lsteps_len (d.steps.take i) d.log
      have l2 : (d.steps.take i).length ≤ d.steps.length := by rw [List.length_take]; omega
      have := sm.2.2.1
      cases o with
      | none =>
        walk_at "rd"
        show rIsNQ .non .non _ _
        walk_at "rd"
        refine x_newL fun b' H3 hb' k3 hb3 => ?_
        exact ⟨b', some .non, rfl, by rw [tk]; exact hb3, kk.free hb' id, kk.trans k3 fun _ z => z.elim⟩
      | some y =>
        walk_at "rd"
        show rIsNQ (.int y) .non _ _
        walk_at "rd"
        show rAppend (.ref b) [.int y] _ _
        refine x_app hb2 (by rw [List.length_map]; omega) fun H3 hb3 k3 => ?_
        exact ⟨b, some (.int y), rfl, by rw [tk, hb3]; show _ = some (HO.lst (((d.steps.take i).foldl lstep d.log ++ [y]).map V.int)); rw [List.map_append]; rfl, hb0, kk.trans k3 fun x z => .inr (by rw [z]; exact hb0)⟩
    · rintro σ H2 ⟨b, u, rfl, hb2, hb0, kk⟩
      rw [List.length_map, List.take_length] at hb2
      walk_at "rd"
      exact k b H2 hb0 kk hb2
/-- a new list of steps, a new log -/
theorem DevA.newL {O : Addr → Prop} {H1 H' : Hp} {p dx a1 a2 a3 a4 b3 b4 : Addr} {kvs : List (Key × V)} {ws : List V} {d : DevS} {lg : List Int} {sl : List (Option Int)} {n : Int} {mo : Option Int} (D : DevA c O H1 p dx a1 a2 a3 a4 kvs ws d)
    (h4 : H1 b4 = none) (k : Kp (F1 p) H1 H') (o : H' p = some (.ins c.Device dx (F_Device (.ref a1) (.ref a2) (.ref b3) (.ref b4) (.int n) (oV mo)))) (e3 : H' b3 = some (.lst (lg.map V.int))) (e4 : H' b4 = some (.lst (sl.map oV))) (n3 : ¬ DevG p a1 a2 b4 b3) (o3 : O b3) (o4 : O b4) :
    DevA c O H' p dx a1 a2 b3 b4 kvs ws { pages := d.pages, writes := d.writes, log := lg, steps := sl, done := n, most := mo } := by
  have nb := D.fresh h4
  have im : ∀ a ds, Im H1 O (DevG p a1 a2 a4) a ds → Im H' O (DevG p a1 a2 b4) a ds := fun a ds i => ⟨k.get i.1 fun z => i.2.2 (.inl z), i.2.1, by
    rintro (z | z | z | z)
    · exact i.2.2 (.inl z)
    · exact i.2.2 (.inr (.inl z))
    · exact i.2.2 (.inr (.inr (.inl z)))
    · exact ne_of_none i.1 h4 z⟩
  exact ⟨o, k.get D.pg D.np1.symm, Paired.mono (fun _ _ r => r.im im) D.pr, k.get D.wr D.np2.symm, Paired.mono (fun _ _ r => r.im k im) D.wp, ⟨e3, o3, n3⟩, e4, fun z => nb (.inr (.inr (.inl z.symm))), by
    rintro x (z | z | z | z)
    · exact D.ow _ (.inl z)
    · exact D.ow _ (.inr (.inl z))
    · exact D.ow _ (.inr (.inr (.inl z)))
    · rw [z]; exact o4⟩
def sp_Device_sync_log (c : Cl) : Sp := fun vs H Q E => ∃ p O d, vs = [.ref p] ∧ DevAt c H p O d ∧ Sml d ∧ spD c H p O (dSyncL d) (Q .non) E
theorem ok_Device_sync_log (T : Txt K mg c) : GM P w K mg base (L2.CX P w) 2 c.Device "sync_log" (sp_Device_sync_log c) := by
  obtain ⟨f, fd, F, gf, gi⟩ := T.f_Device_sync_log
  have tc_Device := T.cl_Device; have tn_Device_pages := T.n_Device_pages; have tn_Device_page_writes := T.n_Device_page_writes; have tn_Device_durable_log := T.n_Device_durable_log; have tn_Device_log_steps := T.n_Device_log_steps; have tn_Device_done := T.n_Device_done; have tn_Device_most := T.n_Device_most
  refine ⟨f, fd, ["self"], F.okX sc_Device_sync_log ?_ (fun cdv A outer s H vs Q E hr h => ?_), ⟨gf, gi, F.kp⟩, (F.binds (ps := ["self"]) fun _ _ _ _ _ _ us hl => match us, hl with | [_], _ => rfl)⟩
  · rintro vs H Q E ⟨_, _, _, rfl, _⟩
    rfl
  · obtain ⟨p, O0, d, rfl, hD, sm, k⟩ := h
    obtain ⟨O, dx, a1, a2, a3, a4, kvs, ws, eO, D, og⟩ := hD.opn
    have fr : ∀ {x}, H x = none → O x := fun h => by rw [eO]; exact .inr h
    have ho := D.o
    refine ⟨_, (pss_cons (ps_expr (pe_gm0 T.cl_Device (ok_Device_step T) (pv 0) (hr.mono (by decide)) (passE (E := E) rfl rfl rfl rfl)))
      (pss_cons (ps_fld (pv 0) (pe_gm0 T.cl_Device (ok_Device_log T) (pv 0) (hr.mono (by decide)) pass0S) rfl)
      (pss_one (ps_fld (pv 0) (pe_lst pa_nil) rfl)))), ?_⟩
    walk_at "cx"
    walk_at "rd"
    refine ⟨O, p, dx, a1, a2, a3, a4, kvs, ws, d, rfl, D, fun hc H1 D1 k1 => ?_, fun hc => k.no hc hD⟩
    have ho1 := D1.o
    walk_at "rd"
    refine ⟨p, _, _, rfl, D1.clo eO, sm, fun b H2 hb k2 hb2 => ?_⟩
    have D2 := D1.same k2
    have ho2 := D2.o
    have nbp : b ≠ p := fun z => D1.fresh hb (.inl z)
    walk_at "rd"
    intro H3 p3 k3
    have hb3 := k3.get hb2 nbp
    walk_at "rd"
    refine x_newL fun e H4 he k4 he4 => ?_
    have hb4 := k4.get hb3 id
    walk_at "rd"
    intro H5 p5 k5
    have nep : e ≠ p := fun z => by rw [z, p3] at he; cases he
    have nbe : b ≠ e := ne_of_none hb3 he
    have he2 : H2 e = none := k3.free he nep
    have k12 : Kp (F1 p) H H2 := k1.trans k2 fun _ z => z.elim
    have kk : Kp (F1 p) H2 H5 := (k3.trans k4 fun _ z => z.elim).trans k5 fun _ z => .inl z
    have q : DevA c O H5 p dx a1 a2 b e kvs ws { pages := d.pages, writes := d.writes, log := clog d, steps := [], done := d.done + 1, most := d.most } :=
      D2.newL (lg := clog d) (sl := []) he2 kk p5 (k5.get hb4 nbp) (k5.get he4 nep) (by
        rintro (z | z | z | z)
        · exact nbp z
        · exact D1.fresh hb (.inr (.inl z))
        · exact D1.fresh hb (.inr (.inr (.inl z)))
        · exact nbe z) (fr (k1.free hb nbp)) (fr (k12.free he2 nep))
    exact k.yes hc (q.clo eO) (Stp.nO (G := DevG p a1 a2 a4) ((k12.mono F1.g).trans kk fun _ z => .inl (.inl z)) og)
def sp_Device_durable_page (c : Cl) : Sp := fun vs H Q _ => ∃ p O d n, vs = [.ref p, .int n] ∧ DevAt c H p O d ∧ ∀ b H', H b = none → Kp F0 H H' → H' b = some (.lst ((dpg d n).map V.int)) → Q (.ref b) H'
theorem ok_Device_durable_page (T : Txt K mg c) : GM P w K mg base CX0 1 c.Device "durable_page" (sp_Device_durable_page c) := by
  obtain ⟨f, fd, F, gf, gi⟩ := T.f_Device_durable_page
  obtain ⟨_, mg_PAGE_SIZE⟩ := T.m_PAGE_SIZE
  have tc_Device := T.cl_Device; have tn_Device_pages := T.n_Device_pages; have tn_Device_page_writes := T.n_Device_page_writes; have tn_Device_durable_log := T.n_Device_durable_log; have tn_Device_log_steps := T.n_Device_log_steps; have tn_Device_done := T.n_Device_done; have tn_Device_most := T.n_Device_most
  refine ⟨f, fd, ["self", "number"], F.ok sc_Device_durable_page ?_ (fun cdv A outer s H vs Q E hr h => ?_), ⟨gf, gi, F.kp⟩, (F.binds (ps := ["self", "number"]) fun _ _ _ _ _ _ us hl => match us, hl with | [_, _], _ => rfl)⟩
  · rintro vs H Q E ⟨_, _, _, _, rfl, _⟩
    rfl
  · obtain ⟨p, O0, d, n, rfl, hD, k⟩ := h
    obtain ⟨O, dx, a1, a2, a3, a4, kvs, ws, eO, D, og⟩ := hD.opn
    have fr : ∀ {x}, H x = none → O x := fun h => by rw [eO]; exact .inr h
    have ho := D.o
    have hp := D.pg
    refine ⟨_, (pss_one (ps_ret (pe_callTy (r := rLstQ K) c_list (by rfl) T.z_list (by decide +kernel) (pa_cons (pe_dget2 (hu_of hr) (pe_fldK rfl (pv 0)) (pv 1) (pe_op op_rep (pe_lst (pa_cons pe_int pa_nil)) (pe_glob (v := .int 256) rfl mg_PAGE_SIZE ⟨_, rfl⟩)) ⟨rfl, rfl, rfl, rfl⟩) pa_nil)))), ?_⟩
    walk_at "cx"
    walk_at "rd"
    refine x_newL fun z1 H1 hz1 k1 hz11 => ?_
    walk_at "rd"
    refine x_rep hz11 (by decide) (by decide) fun z2 H2 hz2 k2 hz22 => ?_
    have D2 := (D.same k1).same k2
    have hp2 := D2.pg
    walk_at "rd"
    have ez : List.replicate (256 : Int).toNat (V.int 0) = zeros.map V.int := by unfold zeros; rw [List.map_replicate]; rfl
    rw [ez] at hz22
    have fin : ∀ {x : Addr} {ds : List Int}, H2 x = some (.lst (ds.map V.int)) → dpg d n = ds → rLstQ K [.ref x] H2 Q := fun {x ds} hx e => by
      refine x_lstL (SqL.of hx) fun b H3 hb k3 hb3 => ?_
      exact k b H3 (k1.free (k2.free hb id) id) ((k1.trans k2 fun _ z => z.elim).trans k3 fun _ z => z.elim) (by rw [e]; exact hb3)
    rcases get_pr RPg.key n D2.pr with ⟨e1, e2⟩ | ⟨v, ds, e1, e2, _, a, rfl, i⟩
    · rw [e1]
      exact fin hz22 (by unfold dpg; rw [e2]; rfl)
    · rw [e1]
      exact fin i.1 (by unfold dpg; rw [e2]; rfl)
def sp_Device_page (c : Cl) : Sp := fun vs H Q _ => ∃ p O d n, vs = [.ref p, .int n] ∧ DevAt c H p O d ∧ ∀ b H', H b = none → Kp F0 H H' → H' b = some (.lst ((cpg d n).map V.int)) → Q (.ref b) H'
theorem prev {α β : Type} {R : α → β → Prop} : ∀ {l : List α} {m : List β}, Paired R l m → Paired R l.reverse m.reverse
  | _, _, .nil => .nil
  | _, _, .cons h t => by
    rw [List.reverse_cons, List.reverse_cons]
    exact (prev t).snoc h
theorem ok_Device_page (T : Txt K mg c) : GM P w K mg base CX0 2 c.Device "page" (sp_Device_page c) := by
  obtain ⟨f, fd, F, gf, gi⟩ := T.f_Device_page
  have tc_Device := T.cl_Device; have tn_Device_pages := T.n_Device_pages; have tn_Device_page_writes := T.n_Device_page_writes; have tn_Device_durable_log := T.n_Device_durable_log; have tn_Device_log_steps := T.n_Device_log_steps; have tn_Device_done := T.n_Device_done; have tn_Device_most := T.n_Device_most
  refine ⟨f, fd, ["self", "number"], F.ok sc_Device_page ?_ (fun cdv A outer s H vs Q E hr h => ?_), ⟨gf, gi, F.kp⟩, (F.binds (ps := ["self", "number"]) fun _ _ _ _ _ _ us hl => match us, hl with | [_, _], _ => rfl)⟩
  · rintro vs H Q E ⟨_, _, _, _, rfl, _⟩
    rfl
  · obtain ⟨p, O0, d, n, rfl, hD, k⟩ := h
    obtain ⟨O, dx, a1, a2, a3, a4, kvs, ws, eO, D, og⟩ := hD.opn
    have fr : ∀ {x}, H x = none → O x := fun h => by rw [eO]; exact .inr h
    have ho := D.o
    have hw := D.wr
    refine ⟨_, (pss_cons (ps_for PassesOwn.never rfl (pi_revK rfl (pi_reversed (by rfl) T.z_reversed (pa_cons (pe_fldK rfl (pv 0)) pa_nil))) (pg_kT rfl (pg_tup (n := 2) rfl (pgs_cons (pg_name (i := 2) sc_Device_page.nd rfl (Or.inl rfl)) (pgs_cons (pg_name (i := 3) sc_Device_page.nd rfl (Or.inl rfl)) pgs_nil)))) (pss_one (ps_if (pt_cmpR op_eq (pv 2) (pv 1) (nomark _)) (pss_one (ps_ret (pe_callTy (r := rLstQ K) c_list (by rfl) T.z_list (by decide +kernel) (pa_cons (pv 3) pa_nil)))) pss_nil)))
      (pss_one (ps_ret (pe_gm T.cl_Device (ok_Device_durable_page T) (pv 0) (hr.mono (by decide)) pass0S (pa_cons (pv 1) pa_nil))))), ?_⟩
    walk_at "cx"
    walk_at "rd"
    refine wfor Wk.rev (fun i σ H' => ∃ u v, σ = [some (.ref p), some (.int n), u, v] ∧ H = H' ∧ (d.writes.reverse.take i).find? (fun q => decide (q.1 = n)) = none)
      ⟨none, none, rfl, rfl, rfl⟩ (fun i σ H' ⟨_, _, _, e, _⟩ => by rw [← e]; exact SqL.of hw) ?_ ?_
    · rintro i x σ H2 ex ⟨u, v, rfl, rfl, hf⟩
      obtain ⟨q, eq, t, a, rfl, ht, hi⟩ := pget (prev D.wp) ex
      walk_at "rd"
      have tk : d.writes.reverse.take (i + 1) = d.writes.reverse.take i ++ [q] := by rw [List.take_succ, eq]; rfl
      refine ite_dec (fun e => ?_) fun e => ?_
      · walk_at "rd"
        refine x_lstL (SqL.of hi.1) fun b H3 hb k3 hb3 => ?_
        refine k b H3 hb k3 ?_
        have lt : i < d.writes.reverse.length := (List.getElem?_eq_some_iff.mp eq).1
        have e2 : d.writes.reverse.find? (fun q => decide (q.1 = n)) = some q := by
          rw [← List.take_append_drop (i + 1) d.writes.reverse, tk, List.find?_append, List.find?_append, hf]
          rw [List.find?_cons_of_pos (by exact decide_eq_true e)]; rfl
        unfold cpg
        rw [e2]
        exact hb3
      · refine ⟨_, _, rfl, rfl, ?_⟩
        rw [tk, List.find?_append, hf, List.find?_cons_of_neg (by simpa using e)]; rfl
    · rintro σ H2 ⟨u, v, rfl, rfl, hf⟩
      rw [List.length_reverse, show ws.length = d.writes.reverse.length by rw [List.length_reverse]; exact D.wp.length, List.take_length] at hf
      walk_at "rd"
      refine ⟨p, _, d, n, rfl, hD, fun b H3 hb k3 hb3 => k b H3 hb k3 ?_⟩
      unfold cpg
      rw [hf]
      exact hb3
def sp_Device_steps (c : Cl) : Sp := fun vs H Q _ => ∃ p O d, vs = [.ref p] ∧ DevAt c H p O d ∧ Q (.int d.done) H
theorem ok_Device_steps (T : Txt K mg c) : GM P w K mg base CX0 1 c.Device "steps" (sp_Device_steps c) := by
  obtain ⟨f, fd, F, gf, gi⟩ := T.f_Device_steps
  have tc_Device := T.cl_Device; have tn_Device_pages := T.n_Device_pages; have tn_Device_page_writes := T.n_Device_page_writes; have tn_Device_durable_log := T.n_Device_durable_log; have tn_Device_log_steps := T.n_Device_log_steps; have tn_Device_done := T.n_Device_done; have tn_Device_most := T.n_Device_most
  refine ⟨f, fd, ["self"], F.ok sc_Device_steps ?_ (fun cdv A outer s H vs Q E hr h => ?_), ⟨gf, gi, F.kp⟩, (F.binds (ps := ["self"]) fun _ _ _ _ _ _ us hl => match us, hl with | [_], _ => rfl)⟩
  · rintro vs H Q E ⟨_, _, _, rfl, _⟩
    rfl
  · obtain ⟨p, O0, d, rfl, hD, k⟩ := h
    obtain ⟨O, dx, a1, a2, a3, a4, kvs, ws, eO, D, og⟩ := hD.opn
    have fr : ∀ {x}, H x = none → O x := fun h => by rw [eO]; exact .inr h
    have ho := D.o
    refine ⟨_, (pss_one (ps_ret (pe_fldK rfl (pv 0)))), ?_⟩
    walk_at "cx"
    walk_at "rd"
    exact k
def sp_Device_pending (c : Cl) : Sp := fun vs H Q _ => ∃ p O d, vs = [.ref p] ∧ DevAt c H p O d ∧ ∀ b H', Kp F0 H H' → H' b = some (.tup [.int d.writes.length, .int d.steps.length]) → Q (.ref b) H'
theorem ok_Device_pending (T : Txt K mg c) : GM P w K mg base CX0 1 c.Device "pending" (sp_Device_pending c) := by
  obtain ⟨f, fd, F, gf, gi⟩ := T.f_Device_pending
  have tc_Device := T.cl_Device; have tn_Device_pages := T.n_Device_pages; have tn_Device_page_writes := T.n_Device_page_writes; have tn_Device_durable_log := T.n_Device_durable_log; have tn_Device_log_steps := T.n_Device_log_steps; have tn_Device_done := T.n_Device_done; have tn_Device_most := T.n_Device_most
  refine ⟨f, fd, ["self"], F.ok sc_Device_pending ?_ (fun cdv A outer s H vs Q E hr h => ?_), ⟨gf, gi, F.kp⟩, (F.binds (ps := ["self"]) fun _ _ _ _ _ _ us hl => match us, hl with | [_], _ => rfl)⟩
  · rintro vs H Q E ⟨_, _, _, rfl, _⟩
    rfl
  · obtain ⟨p, O0, d, rfl, hD, k⟩ := h
    obtain ⟨O, dx, a1, a2, a3, a4, kvs, ws, eO, D, og⟩ := hD.opn
    have fr : ∀ {x}, H x = none → O x := fun h => by rw [eO]; exact .inr h
    have ho := D.o
    have hw := D.wr
    have hs := D.st
    refine ⟨_, (pss_one (ps_ret (pe_tup (pa_cons (pe_callB (r := rLenQ K) c_len (by rfl) T.z_len PySem.boot_len (pa_cons (pe_fldK rfl (pv 0)) pa_nil)) (pa_cons (pe_callB (r := rLenQ K) c_len (by rfl) T.z_len PySem.boot_len (pa_cons (pe_fldK rfl (pv 0)) pa_nil)) pa_nil))))), ?_⟩
    walk_at "cx"
    walk_at "rd"
    rw [D.wp.length, List.length_map]
    refine x_newT fun b H1 hb k1 hb1 => ?_
    exact k b H1 k1 hb1
def sp_Device_crash (c : Cl) (K : PySem.W.Frag) : Sp := fun vs H Q _ => ∃ p O d l fs n, vs = [.ref p, .ref l, .int n] ∧ 0 ≤ n ∧ DevAt c H p O d ∧ SqL K H l (fs.map V.int) ∧ ¬ O l ∧ Sml d ∧ ∀ H' O', DevAt c H' p O' (dCrash fs n.toNat d) → Stp O O' H H' → Q .non H'
theorem cut_take {ss : List (Option Int)} {j : Int} (h0 : 0 ≤ j) : cutV (ss.map oV) none (some j) = (ss.take j.toNat).map oV := by
  obtain ⟨k, rfl⟩ := Int.eq_ofNat_of_zero_le h0
  unfold cutV
  rw [HT.sIx_none, HT.sIx_nat]
  simp only [List.drop_zero, Nat.sub_zero, List.length_map, List.map_take, Int.toNat_natCast]
  by_cases q : k ≤ ss.length
  · rw [show min k ss.length = k by omega]
  · rw [show min k ss.length = ss.length by omega, List.take_of_length_le (by simp), List.take_of_length_le (by simp; omega)]
theorem dFates_len : ∀ (l : List ((Int × List Int) × Int)) (pages : List (Int × List Int)), (l.foldl dFate pages).length ≤ pages.length + l.length
  | [], _ => Nat.le_refl _
  | q :: l, pages => by
    have h1 := dFates_len l (dFate pages q)
    have h2 : (dFate pages q).length ≤ pages.length + 1 := by
      unfold dFate
      split
      · exact aput_len _ _ _
      · split
        · exact aput_len _ _ _
        · exact Nat.le_succ _
    show (l.foldl dFate (dFate pages q)).length ≤ pages.length + (l.length + 1)
    omega
theorem cut_half_to (a : List Int) : cutV (a.map V.int) none (some 128) = (a.take 128).map V.int := by
  unfold cutV
  rw [HT.sIx_none, show (128 : Int) = ((128 : Nat) : Int) from rfl, HT.sIx_nat]
  simp only [List.drop_zero, Nat.sub_zero, List.length_map, List.map_take]
  by_cases q : 128 ≤ a.length
  · rw [show min 128 a.length = 128 by omega]
  · rw [show min 128 a.length = a.length by omega, List.take_of_length_le (by simp), List.take_of_length_le (by simp; omega)]
theorem cut_half_from (a : List Int) : cutV (a.map V.int) (some 128) none = (a.drop 128).map V.int := by
  unfold cutV
  rw [HT.sIx_none, show (128 : Int) = ((128 : Nat) : Int) from rfl, HT.sIx_nat]
  simp only [List.length_map, List.map_drop]
  by_cases q : 128 ≤ a.length
  · rw [show min 128 a.length = 128 by omega, List.take_of_length_le (by simp)]
  · rw [List.drop_eq_nil_of_le (by simp; omega), List.drop_eq_nil_of_le (by simp; omega)]; simp
/-- a page put into the dict -/
theorem DevA.put {O : Addr → Prop} {H H' : Hp} {p dx a1 a2 a3 a4 l : Addr} {kvs : List (Key × V)} {ws : List V} {d : DevS} {n : Int} {ds : List Int} (D : DevA c O H p dx a1 a2 a3 a4 kvs ws d) (i : Im H O (DevG p a1 a2 a4) l ds) (k3 : Kp (F1 a1) H H') (h : H' a1 = some (.dK (putK kvs (.inl n) (.ref l)))) :
    DevA c O H' p dx a1 a2 a3 a4 (putK kvs (.inl n) (.ref l)) ws { d with pages := aput d.pages n ds } := by
  have sub : ∀ x, F1 a1 x → DevG p a1 a2 a4 x := fun x z => .inr (.inl z)
  exact ⟨k3.get D.o D.np1, h, put_pr RPg.key ⟨rfl, l, rfl, i.kp k3 sub⟩ (Paired.mono (fun _ _ r => r.kp k3 sub) D.pr), k3.get D.wr D.n12.symm, Paired.mono (fun _ _ r => r.kp k3 sub) D.wp, D.lg.kp k3 sub, k3.get D.st D.n14.symm, D.ne, D.ow⟩
theorem ok_Device_crash (T : Txt K mg c) : GM P w K mg base CX0 2 c.Device "crash" (sp_Device_crash c K) := by
  obtain ⟨f, fd, F, gf, gi⟩ := T.f_Device_crash
  obtain ⟨_, mg_HALF⟩ := T.m_HALF
  have tc_Device := T.cl_Device; have tn_Device_pages := T.n_Device_pages; have tn_Device_page_writes := T.n_Device_page_writes; have tn_Device_durable_log := T.n_Device_durable_log; have tn_Device_log_steps := T.n_Device_log_steps; have tn_Device_done := T.n_Device_done; have tn_Device_most := T.n_Device_most
  refine ⟨f, fd, ["self", "fates", "kept"], F.ok sc_Device_crash ?_ (fun cdv A outer s H vs Q E hr h => ?_), ⟨gf, gi, F.kp⟩, (F.binds (ps := ["self", "fates", "kept"]) fun _ _ _ _ _ _ us hl => match us, hl with | [_, _, _], _ => rfl)⟩
  · rintro vs H Q E ⟨_, _, _, _, _, _, rfl, _⟩
    rfl
  · obtain ⟨p, O0, d, l, fs, n, rfl, hn, hD, hl, nl, sm, k⟩ := h
    obtain ⟨O, dx, a1, a2, a3, a4, kvs, ws, eO, D, og⟩ := hD.opn
    have fr : ∀ {x}, H x = none → O x := fun h => by rw [eO]; exact .inr h
    have ho := D.o
    have hw := D.wr
    have lw : ws.length = d.writes.length := D.wp.length
    have := sm.1
    have := sm.2.1
    refine ⟨_, (pss_cons (ps_for PassesOwn.never rfl (pi_range1 (by rfl) T.z_range (pa_cons (pe_callB (c_min2 rfl) (by rfl) T.z_min (by decide +kernel) (pa_cons (pe_callB (r := rLenQ K) c_len (by rfl) T.z_len PySem.boot_len (pa_cons (pv 1) pa_nil)) (pa_cons (pe_callB (r := rLenQ K) c_len (by rfl) T.z_len PySem.boot_len (pa_cons (pe_fldK rfl (pv 0)) pa_nil)) pa_nil))) pa_nil)) (pg_name (i := 3) sc_Device_crash.nd rfl (Or.inl rfl)) (pss_cons (ps_asg (pe_ix (r := rIxL K) ix_list (pe_fldK rfl (pv 0)) (pv 3) (fun _ _ => rfl)) (pg_kT rfl (pg_tup (n := 2) rfl (pgs_cons (pg_name (i := 4) sc_Device_crash.nd rfl (Or.inl rfl)) (pgs_cons (pg_name (i := 5) sc_Device_crash.nd rfl (Or.inl rfl)) pgs_nil)))))
      (pss_one (ps_if (pt_cmpR op_eq (pe_ix (r := rIxL K) ix_list (pv 1) (pv 3) (fun _ _ => rfl)) pe_int (nomark _)) (pss_one (ps_dput (hu_of hr) (pe_fldK rfl (pv 0)) (pv 4) (pv 5) rfl)) (pss_one (ps_if (pt_cmpR op_eq (pe_ix (r := rIxL K) ix_list (pv 1) (pv 3) (fun _ _ => rfl)) pe_int (nomark _)) (pss_one (ps_dput (hu_of hr) (pe_fldK rfl (pv 0)) (pv 4) (pe_op op_cat (pe_slice (r := rSlL K) sl_list (pv 5) po_none (po_some (pe_glob (v := .int 128) rfl mg_HALF ⟨_, rfl⟩))) (pe_slice (r := rSlL K) sl_list (pe_gm T.cl_Device (ok_Device_durable_page T) (pv 0) (hr.mono (by decide)) pass0S (pa_cons (pv 4) pa_nil)) (po_some (pe_glob (v := .int 128) rfl mg_HALF ⟨_, rfl⟩)) po_none)) rfl)) pss_nil))))))
      (pss_cons (ps_fld (pv 0) (pe_lst pa_nil) rfl)
      (pss_cons (ps_fld (pv 0) (pe_slice (r := rSlL K) sl_list (pe_fldK rfl (pv 0)) po_none (po_some (pv 2))) rfl)
      (pss_cons (ps_fld (pv 0) (pe_gm0 T.cl_Device (ok_Device_log T) (pv 0) (hr.mono (by decide)) pass0S) rfl)
      (pss_cons (ps_fld (pv 0) (pe_lst pa_nil) rfl)
      (pss_one (ps_fld (pv 0) pe_non rfl))))))), ?_⟩
    walk_at "cx"
    walk_at "rd"
    rw [lw, List.length_map]
    walk_at "rd"
    refine wfor Wk.rng (fun i σ H' => ∃ kvs' u v w, σ = [some (.ref p), some (.ref l), some (.int n), u, v, w] ∧ DevA c O H' p dx a1 a2 a3 a4 kvs' ws { d with pages := ((d.writes.zip fs).take i).foldl dFate d.pages } ∧ Kp (DevG p a1 a2 a4) H H')
      ⟨kvs, none, none, none, rfl, D, Kp.refl _⟩ (fun _ _ _ _ => trivial) ?_ ?_
    · rintro i x σ H2 ex ⟨kvs', u, v, w, rfl, D2, kk⟩
      obtain ⟨hi, rfl⟩ := rgl_at ex
      have i1 : i < fs.length := by omega
      have i2 : i < d.writes.length := by omega
      have ho2 := D2.o
      have hw2 := D2.wr
      have hl2 := kk.sqL hl fun z => nl (og _ z)
      have hwi : ws[i]? = some ws[i] := List.getElem?_eq_getElem (by omega)
      obtain ⟨q, eq, t, a, ew, ht, hi2⟩ := pget D2.wp hwi
      have eq' : d.writes[i]? = some q := eq
      have eqg : d.writes[i] = q := (List.getElem?_eq_some_iff.mp eq').2
      have hfi := at_of_lt i1
      have gfi : fs.getD i 0 = fs[i] := by rw [List.getD_eq_getElem?_getD, List.getElem?_eq_getElem i1]; rfl
      have tk : ((d.writes.zip fs).take (i + 1)).foldl dFate d.pages = dFate (((d.writes.zip fs).take i).foldl dFate d.pages) (q, fs.getD i 0) := by
        have z : (d.writes.zip fs)[i]? = some (q, fs.getD i 0) := by
          rw [List.getElem?_zip_eq_some]; exact ⟨eq', by rw [gfi]; exact List.getElem?_eq_getElem i1⟩
        rw [List.take_succ, z, List.foldl_append]; rfl
      have pl := dFates_len ((d.writes.zip fs).take i) d.pages
      have pl2 : ((d.writes.zip fs).take i).length ≤ d.writes.length := by rw [List.length_take, List.length_zip]; omega
      have pl3 : kvs'.length = (((d.writes.zip fs).take i).foldl dFate d.pages).length := D2.pr.length
      walk_at "rd"
      refine x_ixL (SqL.of hw2) (atI_at i (by omega) hwi) ?_
      rw [ew]
      walk_at "rd"
      refine x_ixL hl2 (atI_at i (by omega) hfi) ?_
      walk_at "rd"
      have hp2 := D2.pg
      have n1 : ∀ {z : Int}, fs.getD i 0 = z → z ≠ 1 → z ≠ 2 → dFate (((d.writes.zip fs).take i).foldl dFate d.pages) (q, fs.getD i 0) = ((d.writes.zip fs).take i).foldl dFate d.pages := fun e h1 h2 => by
        unfold dFate; rw [if_neg (by rw [e]; exact h1), if_neg (by rw [e]; exact h2)]
      refine ite_dec (fun e => ?_) fun e => ?_
      · walk_at "rd"
        refine x_dpI hp2 (by omega) fun H3 hp3 k3 => ?_
        refine ⟨putK kvs' (.inl q.1) (.ref a), _, _, _, rfl, ?_, kk.trans k3 fun x z => .inl (.inr (.inl z))⟩
        rw [tk, show dFate (((d.writes.zip fs).take i).foldl dFate d.pages) (q, fs.getD i 0) = aput (((d.writes.zip fs).take i).foldl dFate d.pages) q.1 q.2 by unfold dFate; rw [if_pos e]]
        exact D2.put hi2 k3 hp3
      · walk_at "rd"
        refine x_ixL hl2 (atI_at i (by omega) hfi) ?_
        walk_at "rd"
        refine ite_dec (fun e2 => ?_) fun e2 => ?_
        · walk_at "rd"
          refine x_slL (SqL.of hi2.1) fun s1 H3 hs1 k3 hs13 => ?_
          rw [cut_half_to] at hs13
          have D3 := D2.same k3
          have ho3 := D3.o
          walk_at "rd"
          refine ⟨p, _, _, q.1, rfl, D3.clo eO, fun s2 H4 hs2 k4 hs24 => ?_⟩
          walk_at "rd"
          refine x_slL (SqL.of hs24) fun s3 H5 hs3 k5 hs35 => ?_
          rw [cut_half_from] at hs35
          have hs15 := k5.get (k4.get hs13 id) id
          walk_at "rd"
          refine x_catL hs15 hs35 (by
            rw [List.length_map, List.length_map, List.length_take, List.length_drop, sizeLine_eq]
            have : (dpg { d with pages := ((d.writes.zip fs).take i).foldl dFate d.pages } q.1).length ≤ 256 := aget_sz (dFates_sz sm.2.2.2.1 fun q hq => sm.2.2.2.2 q.1 (List.of_mem_zip (List.mem_of_mem_take hq)).1)
            have : q.2.length ≤ 256 := sm.2.2.2.2 q (List.mem_of_getElem? eq')
            omega) fun s4 H6 hs4 k6 hs46 => ?_
          rw [← List.map_append] at hs46
          have D6 := ((D3.same k4).same k5).same k6
          have ho6 := D6.o
          have hp6 := D6.pg
          walk_at "rd"
          refine x_dpI hp6 (by omega) fun H7 hp7 k7 => ?_
          have kz : Kp F0 H2 H6 := ((k3.trans k4 fun _ z => z.elim).trans k5 fun _ z => z.elim).trans k6 fun _ z => z.elim
          refine ⟨putK kvs' (.inl q.1) (.ref s4), _, _, _, rfl, ?_, (kk.trans kz fun _ z => z.elim).trans k7 fun x z => .inl (.inr (.inl z))⟩
          rw [tk, show dFate (((d.writes.zip fs).take i).foldl dFate d.pages) (q, fs.getD i 0) = aput (((d.writes.zip fs).take i).foldl dFate d.pages) q.1 (q.2.take 128 ++ ((aget (((d.writes.zip fs).take i).foldl dFate d.pages) q.1).getD zeros).drop 128) by unfold dFate; rw [if_neg e, if_pos e2]]
          exact D6.put ⟨hs46, fr (kk.free (k3.free (k4.free (k5.free hs4 id) id) id) ((((D3.same k4).same k5)).fresh hs4)), (((D3.same k4).same k5)).fresh hs4⟩ k7 hp7
        · refine ⟨kvs', _, _, _, rfl, ?_, kk⟩
          rw [tk, n1 rfl e e2]
          exact D2
    · rintro σ H2 ⟨kvs', u, v, w, rfl, D2, kk⟩
      have et : (d.writes.zip fs).take (rgl 0 (min (fs.length : Int) (d.writes.length : Int)).toNat).length = d.writes.zip fs := List.take_of_length_le (by rw [rgl_len, List.length_zip]; omega)
      rw [et] at D2
      have ho2 := D2.o
      walk_at "rd"
      refine x_newL fun b H3 hb k3 hb3 => ?_
      have D3 := D2.same k3
      have ho3 := D3.o
      have nb := D2.fresh hb
      have nbp : b ≠ p := fun z => nb (.inl z)
      have nb1 : b ≠ a1 := fun z => nb (.inr (.inl z))
      have nb4 : b ≠ a4 := fun z => nb (.inr (.inr (.inr z)))
      walk_at "rd"
      intro H4 p4 k4
      have D4 : DevA c O H4 p dx a1 b a3 a4 kvs' [] { d with pages := (d.writes.zip fs).foldl dFate d.pages, writes := [] } := by
        have im : ∀ a ds, Im H2 O (DevG p a1 a2 a4) a ds → Im H4 O (DevG p a1 b a4) a ds := fun a ds i => ⟨k4.get (k3.get i.1 id) fun z => i.2.2 (.inl z), i.2.1, by
          rintro (z | z | z | z)
          · exact i.2.2 (.inl z)
          · exact i.2.2 (.inr (.inl z))
          · exact ne_of_none i.1 hb z
          · exact i.2.2 (.inr (.inr (.inr z)))⟩
        exact ⟨p4, k4.get D3.pg D3.np1.symm, Paired.mono (fun _ _ r => r.im im) D2.pr, k4.get hb3 nbp, .nil, im _ _ D2.lg, k4.get D3.st D3.np4.symm, nb4, by
          rintro x (z | z | z | z)
          · exact D.ow _ (.inl z)
          · exact D.ow _ (.inr (.inl z))
          · rw [z]; exact fr (kk.free hb nb)
          · exact D.ow _ (.inr (.inr (.inr z)))⟩
      have ho4 := D4.o
      have hs4 := D4.st
      walk_at "rd"
      refine x_slL (SqL.of hs4) fun s1 H5 hs1 k5 hs15 => ?_
      rw [cut_take hn] at hs15
      have D5 := D4.same k5
      have ho5 := D5.o
      have ns1p : s1 ≠ p := fun z => D4.fresh hs1 (.inl z)
      walk_at "rd"
      intro H6 p6 k6
      have k46 : Kp (F1 p) H4 H6 := (k5.mono fun _ z => z.elim).trans k6 fun _ z => .inl z
      have ns1 := D4.fresh hs1
      have k24 : Kp (DevG p a1 a2 a4) H2 H4 := (k3.mono fun _ z => z.elim).trans k4 fun _ z => .inl (.inl z)
      have f4 : ∀ x, H4 x = none → H x = none := fun x hx => by
        by_cases q : DevG p a1 a2 a4 x
        · obtain ⟨o, ho⟩ := D2.trk q
          by_cases e : x = p
          · rw [e, p4] at hx; cases hx
          · rw [k4.get (k3.get ho id) e] at hx; cases hx
        · exact kk.free (k24.free hx q) q
      have fs1 := f4 _ hs1
      have n3 : ¬ DevG p a1 b s1 a3 := by
        rintro (z | z | z | z)
        · exact D4.lg.2.2 (.inl z)
        · exact D4.lg.2.2 (.inr (.inl z))
        · exact D4.lg.2.2 (.inr (.inr (.inl z)))
        · exact ne_of_none D4.lg.1 hs1 z
      have D6 : DevA c O H6 p dx a1 b a3 s1 kvs' [] { pages := (d.writes.zip fs).foldl dFate d.pages, writes := [], log := d.log, steps := d.steps.take n.toNat, done := d.done, most := d.most } :=
        D4.newL (lg := d.log) (sl := d.steps.take n.toNat) hs1 k46 p6 (k46.get D4.lg.1 fun z => D4.lg.2.2 (.inl z)) (k6.get hs15 ns1p) n3 D4.lg.2.1 (fr fs1)
      have ho6 := D6.o
      walk_at "rd"
      refine ⟨p, _, _, rfl, D6.clo eO, ?_, fun g H7 hg k7 hg7 => ?_⟩
      · refine ⟨Nat.zero_le _, ?_, ?_, dFates_sz sm.2.2.2.1 fun q hq => sm.2.2.2.2 q.1 (List.of_mem_zip hq).1, fun q hq => by cases hq⟩
        · have h1 := dFates_len (d.writes.zip fs) d.pages
          have h2 : (d.writes.zip fs).length ≤ d.writes.length := by rw [List.length_zip]; omega
          show ((d.writes.zip fs).foldl dFate d.pages).length + 0 ≤ 2000000
          have := sm.2.1
          omega
        · have h1 := sm.2.2.1
          show d.log.length + (d.steps.take n.toNat).length ≤ 8000000
          rw [List.length_take]; omega
      have D7 := D6.same k7
      have ho7 := D7.o
      have ngp : g ≠ p := fun z => D6.fresh hg (.inl z)
      walk_at "rd"
      intro H8 p8 k8
      have hg8 := k8.get hg7 ngp
      walk_at "rd"
      refine x_newL fun e H9 he k9 he9 => ?_
      have nep : e ≠ p := fun z => by rw [z, p8] at he; cases he
      have nge : g ≠ e := ne_of_none hg8 he
      walk_at "rd"
      intro H10 p10 k10
      walk_at "rd"
      intro H11 p11 k11
      have kl : Kp (F1 p) H6 H11 := ((((k7.mono fun _ z => z.elim).trans k8 fun _ z => .inl z).trans k9 fun _ z => z.elim).trans k10 fun _ z => .inl z).trans k11 fun _ z => .inl z
      have he6 : H6 e = none := k7.free (k8.free he nep) id
      have D11 : DevA c O H11 p dx a1 b g e kvs' [] (dCrash fs n.toNat d) := D6.newL (lg := (d.steps.take n.toNat).foldl lstep d.log) (sl := []) (n := d.done) (mo := none) he6 kl p11 (k11.get (k10.get (k9.get hg8 id) ngp) ngp) (k11.get (k10.get he9 nep) nep) (by
        rintro (z | z | z | z)
        · exact ngp z
        · exact D6.fresh hg (.inr (.inl z))
        · exact D6.fresh hg (.inr (.inr (.inl z)))
        · exact nge z) (fr (f4 _ (k46.free hg ngp))) (fr (f4 _ (k46.free he6 nep)))
      have k26 : Kp (DevG p a1 a2 a4) H2 H6 := k24.trans k46 fun _ z => .inl (.inl z)
      exact k H11 _ (D11.clo eO) (Stp.nO (G := DevG p a1 a2 a4) (kk.trans (k26.trans kl fun _ z => .inl (.inl z)) fun _ z => .inl z) og)
end
/-! ### the pager -/
structure PgS where
  dev : DevS
  com : List (Int × List Int)
  dir : List (Int × List Int)
def gpg (s : PgS) (n : Int) : List Int := match aget s.dir n with
  | some d => d
  | none => match aget s.com n with
    | some d => d
    | none => cpg s.dev n
def pwr (n : Int) (ds : List Int) (s : PgS) : PgS := { s with dir := aput s.dir n ds }
def fld (s : PgS) (k : Nat) : Int := rn (((gpg s 0).drop (4 * k)).take 4)
def spl (ds : List Int) (k : Nat) (v : Int) : List Int := ds.take (4 * k) ++ wn 4 v ++ ds.drop (4 * (k + 1))
def setf (k : Nat) (v : Int) (s : PgS) : PgS := pwr 0 (spl (gpg s 0) k v) s
def cnth (s : PgS) : PgS := if fld s 6 = 0 then setf 6 1 s else s
def palloc (s : PgS) : PgS × Int := if fld s 7 = 0 then (pwr (fld s 6) zeros (setf 6 (fld s 6 + 1) s), fld s 6) else (pwr (fld s 7) zeros (setf 7 (rn ((gpg s (fld s 7)).take 4)) s), fld s 7)
def prel (n : Int) (s : PgS) : PgS := setf 7 n (pwr n (wn 4 (fld s 7) ++ List.replicate 252 0) s)
def proll (s : PgS) : PgS := cnth { s with dir := [] }
def PagG (p a1 a2 : Addr) (Od : Addr → Prop) : Addr → Prop := fun b => b = p ∨ b = a1 ∨ b = a2 ∨ Od b
structure PagA (c : Cl) (O Od : Addr → Prop) (H : Hp) (p q dx a1 a2 : Addr) (k1 k2 : List (Key × V)) (s : PgS) : Prop where
  o : H p = some (.ins c.Pager dx (F_Pager (.ref q) (.ref a1) (.ref a2)))
  dv : DevAt c H q Od s.dev
  h1 : H a1 = some (.dK k1)
  p1 : Paired (RPg H O (PagG p a1 a2 Od)) k1 s.com
  h2 : H a2 = some (.dK k2)
  p2 : Paired (RPg H O (PagG p a1 a2 Od)) k2 s.dir
  ne : a1 ≠ a2
  np : ¬ Od p
  n1 : ¬ Od a1
  n2 : ¬ Od a2
  ow : ∀ b, PagG p a1 a2 Od b → O b
/-- a pager at p of the device at q: it owns O, its device Od -/
def PagAt (c : Cl) (H : Hp) (p q : Addr) (O Od : Addr → Prop) (s : PgS) : Prop := (∃ dx a1 a2 k1 k2, PagA c O Od H p q dx a1 a2 k1 k2 s) ∧ ∀ b, O b → ∃ o, H b = some o
section
variable {c : Cl} {O O0 O' Od Od' F : Addr → Prop} {H H' : Hp} {p q dx a1 a2 b : Addr} {k1 k2 : List (Key × V)} {s : PgS}
theorem PagA.n1p (h : PagA c O Od H p q dx a1 a2 k1 k2 s) : p ≠ a1 := ne_of h.o h.h1 (by intro z; cases z)
theorem PagA.n2p (h : PagA c O Od H p q dx a1 a2 k1 k2 s) : p ≠ a2 := ne_of h.o h.h2 (by intro z; cases z)
theorem PagA.trk (D : PagA c O Od H p q dx a1 a2 k1 k2 s) (g : PagG p a1 a2 Od b) : ∃ o, H b = some o := by
  rcases g with rfl | rfl | rfl | g
  · exact ⟨_, D.o⟩
  · exact ⟨_, D.h1⟩
  · exact ⟨_, D.h2⟩
  · exact D.dv.2 b g
theorem PagA.fresh (D : PagA c O Od H p q dx a1 a2 k1 k2 s) (hb : H b = none) : ¬ PagG p a1 a2 Od b := fun z => by
  obtain ⟨o, ho⟩ := D.trk z
  rw [hb] at ho; cases ho
theorem PagA.off (k : Kp F H H') (h : PagA c O Od H p q dx a1 a2 k1 k2 s) (n : ∀ b, F b → ¬ O b) : PagA c O Od H' p q dx a1 a2 k1 k2 s := by
  have g : ∀ b, PagG p a1 a2 Od b → ¬ F b := fun b z f => n b f (h.ow b z)
  have im : ∀ a ds, Im H O (PagG p a1 a2 Od) a ds → Im H' O (PagG p a1 a2 Od) a ds := fun a ds i => ⟨k.get i.1 fun z => n _ z i.2.1, i.2⟩
  exact ⟨k.get h.o (g _ (.inl rfl)), h.dv.off k fun b z o => g b (.inr (.inr (.inr o))) z, k.get h.h1 (g _ (.inr (.inl rfl))), h.p1.mono fun _ _ r => r.im im, k.get h.h2 (g _ (.inr (.inr (.inl rfl)))), h.p2.mono fun _ _ r => r.im im, h.ne, h.np, h.n1, h.n2, h.ow⟩
theorem PagA.same (k : Kp F0 H H') (h : PagA c O Od H p q dx a1 a2 k1 k2 s) : PagA c O Od H' p q dx a1 a2 k1 k2 s := h.off k fun _ z => z.elim
theorem PagA.own (h : PagA c O Od H p q dx a1 a2 k1 k2 s) (n : ∀ b, O b → O' b) : PagA c O' Od H p q dx a1 a2 k1 k2 s :=
  ⟨h.o, h.dv, h.h1, h.p1.mono fun _ _ r => r.im fun _ _ i => ⟨i.1, n _ i.2.1, i.2.2⟩, h.h2, h.p2.mono fun _ _ r => r.im fun _ _ i => ⟨i.1, n _ i.2.1, i.2.2⟩, h.ne, h.np, h.n1, h.n2, fun b z => n _ (h.ow b z)⟩
theorem PagAt.opn (h : PagAt c H p q O0 Od s) : ∃ (O : Addr → Prop) (dx a1 a2 : Addr) (k1 k2 : List (Key × V)), O = (fun x => O0 x ∨ H x = none) ∧ PagA c O Od H p q dx a1 a2 k1 k2 s ∧ ∀ b, PagG p a1 a2 Od b → O0 b := by
  obtain ⟨⟨dx, a1, a2, k1, k2, D⟩, _⟩ := h
  exact ⟨_, dx, a1, a2, k1, k2, rfl, D.own fun _ z => .inl z, D.ow⟩
theorem PagA.clo (D : PagA c O Od H' p q dx a1 a2 k1 k2 s) (e : O = fun x => O0 x ∨ H x = none) : PagAt c H' p q (nO O0 H H') Od s := by
  subst e
  refine ⟨⟨dx, a1, a2, k1, k2, D.o, D.dv, D.h1, D.p1.mono fun _ _ r => r.im fun a ds i => ⟨i.1, ⟨i.2.1, _, i.1⟩, i.2.2⟩, D.h2, D.p2.mono fun _ _ r => r.im fun a ds i => ⟨i.1, ⟨i.2.1, _, i.1⟩, i.2.2⟩, D.ne, D.np, D.n1, D.n2, fun b z => ⟨D.ow b z, D.trk z⟩⟩, fun b z => z.2⟩
theorem PagAt.off (k : Kp F H H') (h : PagAt c H p q O Od s) (n : ∀ b, F b → ¬ O b) : PagAt c H' p q O Od s := by
  obtain ⟨⟨dx, a1, a2, k1, k2, D⟩, t⟩ := h
  refine ⟨⟨dx, a1, a2, k1, k2, D.off k n⟩, fun b z => ?_⟩
  obtain ⟨o, ho⟩ := t b z
  exact ⟨o, k.get ho fun y => n b y z⟩
theorem PagAt.same (k : Kp F0 H H') (h : PagAt c H p q O Od s) : PagAt c H' p q O Od s := h.off k fun _ z => z.elim
theorem PagAt.fresh (h : PagAt c H p q O Od s) (hb : H b = none) : ¬ O b := fun z => by
  obtain ⟨o, ho⟩ := h.2 b z
  rw [hb] at ho; cases ho
theorem PagAt.dv (h : PagAt c H p q O Od s) : DevAt c H q Od s.dev ∧ ∀ b, Od b → O b := by
  obtain ⟨⟨dx, a1, a2, k1, k2, D⟩, t⟩ := h
  exact ⟨D.dv, fun b z => D.ow b (.inr (.inr (.inr z)))⟩
/-- a page put into the dirty ones -/
theorem PagA.put2 {l : Addr} {n : Int} {ds : List Int} (D : PagA c O Od H p q dx a1 a2 k1 k2 s) (i : Im H O (PagG p a1 a2 Od) l ds) (k : Kp (F1 a2) H H') (h : H' a2 = some (.dK (putK k2 (.inl n) (.ref l)))) :
    PagA c O Od H' p q dx a1 a2 k1 (putK k2 (.inl n) (.ref l)) (pwr n ds s) := by
  have sub : ∀ x, F1 a2 x → PagG p a1 a2 Od x := fun x z => .inr (.inr (.inl z))
  exact ⟨k.get D.o D.n2p, D.dv.off k fun b z o => D.n2 (by rw [← z]; exact o), k.get D.h1 D.ne, D.p1.mono fun _ _ r => r.kp k sub, h, put_pr RPg.key ⟨rfl, l, rfl, i.kp k sub⟩ (D.p2.mono fun _ _ r => r.kp k sub), D.ne, D.np, D.n1, D.n2, D.ow⟩
theorem PagA.put1 {l : Addr} {n : Int} {ds : List Int} (D : PagA c O Od H p q dx a1 a2 k1 k2 s) (i : Im H O (PagG p a1 a2 Od) l ds) (k : Kp (F1 a1) H H') (h : H' a1 = some (.dK (putK k1 (.inl n) (.ref l)))) :
    PagA c O Od H' p q dx a1 a2 (putK k1 (.inl n) (.ref l)) k2 { s with com := aput s.com n ds } := by
  have sub : ∀ x, F1 a1 x → PagG p a1 a2 Od x := fun x z => .inr (.inl z)
  exact ⟨k.get D.o D.n1p, D.dv.off k fun b z o => D.n1 (by rw [← z]; exact o), h, put_pr RPg.key ⟨rfl, l, rfl, i.kp k sub⟩ (D.p1.mono fun _ _ r => r.kp k sub), k.get D.h2 D.ne.symm, D.p2.mono fun _ _ r => r.kp k sub, D.ne, D.np, D.n1, D.n2, D.ow⟩
/-- the device steps -/
theorem PagA.dev {d' : DevS} (D : PagA c O Od H p q dx a1 a2 k1 k2 s) (V : DevAt c H' q Od' d') (t : Stp Od Od' H H') (fr : ∀ b, H b = none → O b) : PagA c O Od' H' p q dx a1 a2 k1 k2 { s with dev := d' } := by
  have im : ∀ a ds, Im H O (PagG p a1 a2 Od) a ds → Im H' O (PagG p a1 a2 Od') a ds := fun a ds i => ⟨t.kp.get i.1 fun z => i.2.2 (.inr (.inr (.inr z))), i.2.1, by
    rintro (z | z | z | z)
    · exact i.2.2 (.inl z)
    · exact i.2.2 (.inr (.inl z))
    · exact i.2.2 (.inr (.inr (.inl z)))
    · exact t.kp0 i.1 (fun z => i.2.2 (.inr (.inr (.inr z)))) z⟩
  refine ⟨t.kp.get D.o D.np, V, t.kp.get D.h1 D.n1, D.p1.mono fun _ _ r => r.im im, t.kp.get D.h2 D.n2, D.p2.mono fun _ _ r => r.im im, D.ne, t.kp0 D.o D.np, t.kp0 D.h1 D.n1, t.kp0 D.h2 D.n2, ?_⟩
  rintro b (z | z | z | z)
  · exact D.ow b (.inl z)
  · exact D.ow b (.inr (.inl z))
  · exact D.ow b (.inr (.inr (.inl z)))
  · rcases t.gr b z with y | y
    · exact D.ow b (.inr (.inr (.inr y)))
    · exact fr b y
/-- a new dict of dirty ones -/
theorem PagA.new2 {e : Addr} (D : PagA c O Od H p q dx a1 a2 k1 k2 s) (he : H e = none) (k : Kp (F1 p) H H') (o : H' p = some (.ins c.Pager dx (F_Pager (.ref q) (.ref a1) (.ref e)))) (h : H' e = some (.dK [])) (oe : O e) : PagA c O Od H' p q dx a1 e k1 [] { s with dir := [] } := by
  have nb := D.fresh he
  have im : ∀ a ds, Im H O (PagG p a1 a2 Od) a ds → Im H' O (PagG p a1 e Od) a ds := fun a ds i => ⟨k.get i.1 fun z => i.2.2 (.inl z), i.2.1, by
    rintro (z | z | z | z)
    · exact i.2.2 (.inl z)
    · exact i.2.2 (.inr (.inl z))
    · exact ne_of_none i.1 he z
    · exact i.2.2 (.inr (.inr (.inr z)))⟩
  exact ⟨o, D.dv.off k fun b z y => D.np (by rw [← z]; exact y), k.get D.h1 D.n1p.symm, D.p1.mono fun _ _ r => r.im im, h, .nil, fun z => nb (.inr (.inl z.symm)), D.np, D.n1, fun z => nb (.inr (.inr (.inr z))), by
    rintro b (z | z | z | z)
    · exact D.ow b (.inl z)
    · exact D.ow b (.inr (.inl z))
    · rw [z]; exact oe
    · exact D.ow b (.inr (.inr (.inr z)))⟩
theorem PagA.new1 {e : Addr} (D : PagA c O Od H p q dx a1 a2 k1 k2 s) (he : H e = none) (k : Kp (F1 p) H H') (o : H' p = some (.ins c.Pager dx (F_Pager (.ref q) (.ref e) (.ref a2)))) (h : H' e = some (.dK [])) (oe : O e) : PagA c O Od H' p q dx e a2 [] k2 { s with com := [] } := by
  have nb := D.fresh he
  have im : ∀ a ds, Im H O (PagG p a1 a2 Od) a ds → Im H' O (PagG p e a2 Od) a ds := fun a ds i => ⟨k.get i.1 fun z => i.2.2 (.inl z), i.2.1, by
    rintro (z | z | z | z)
    · exact i.2.2 (.inl z)
    · exact ne_of_none i.1 he z
    · exact i.2.2 (.inr (.inr (.inl z)))
    · exact i.2.2 (.inr (.inr (.inr z)))⟩
  exact ⟨o, D.dv.off k fun b z y => D.np (by rw [← z]; exact y), h, .nil, k.get D.h2 D.n2p.symm, D.p2.mono fun _ _ r => r.im im, fun z => nb (.inr (.inr (.inl z))), D.np, fun z => nb (.inr (.inr (.inr z))), D.n2, by
    rintro b (z | z | z | z)
    · exact D.ow b (.inl z)
    · rw [z]; exact oe
    · exact D.ow b (.inr (.inr (.inl z)))
    · exact D.ow b (.inr (.inr (.inr z)))⟩
end
/-- sizes of a pager's state -/
def SmlP (s : PgS) : Prop := s.com.length ≤ 1000000 ∧ s.dir.length ≤ 1000000 ∧ Sz s.com ∧ Sz s.dir
section
variable {P : Program} {w : World} {K : PySem.W.Frag} {mg : Str → Option Value} {base : Heap} {c : Cl}
def sp_Pager_read (c : Cl) : Sp := fun vs H Q _ => ∃ p q O Od s n, vs = [.ref p, .int n] ∧ PagAt c H p q O Od s ∧ ∀ b H', H b = none → Kp F0 H H' → H' b = some (.lst ((gpg s n).map V.int)) → Q (.ref b) H'
theorem ok_Pager_read (T : Txt K mg c) : GM P w K mg base CX0 3 c.Pager "read" (sp_Pager_read c) := by
  obtain ⟨f, fd, F, gf, gi⟩ := T.f_Pager_read
  have tc_Device := T.cl_Device; have tn_Device_pages := T.n_Device_pages; have tn_Device_page_writes := T.n_Device_page_writes; have tn_Device_durable_log := T.n_Device_durable_log; have tn_Device_log_steps := T.n_Device_log_steps; have tn_Device_done := T.n_Device_done; have tn_Device_most := T.n_Device_most
  have tc_Pager := T.cl_Pager; have tn_Pager_device := T.n_Pager_device; have tn_Pager_committed := T.n_Pager_committed; have tn_Pager_dirty := T.n_Pager_dirty
  refine ⟨f, fd, ["self", "number"], F.ok sc_Pager_read ?_ (fun cdv A outer s H vs Q E hr h => ?_), ⟨gf, gi, F.kp⟩, (F.binds (ps := ["self", "number"]) fun _ _ _ _ _ _ us hl => match us, hl with | [_, _], _ => rfl)⟩
  · rintro vs H Q E ⟨_, _, _, _, _, _, rfl, _⟩
    rfl
  · obtain ⟨p, q, O0, Od, s, n, rfl, ⟨⟨dx, a1, a2, k1, k2, D⟩, _⟩, k⟩ := h
    obtain ⟨⟨dx2, b1, b2, b3, b4, kvs, ws, DD⟩, _⟩ := id D.dv
    have ho := D.o
    have h1 := D.h1
    have h2 := D.h2
    have hq := DD.o
    refine ⟨_, (pss_cons (ps_if (pt_cmp (pc_din (hu_of hr) (pv 1) (pe_fldK rfl (pv 0)))) (pss_one (ps_ret (pe_callTy (r := rLstQ K) c_list (by rfl) T.z_list (by decide +kernel) (pa_cons (pe_dget (hu_of hr) (pe_fldK rfl (pv 0)) (pv 1) (fun _ _ => rfl)) pa_nil)))) pss_nil)
      (pss_cons (ps_if (pt_cmp (pc_din (hu_of hr) (pv 1) (pe_fldK rfl (pv 0)))) (pss_one (ps_ret (pe_callTy (r := rLstQ K) c_list (by rfl) T.z_list (by decide +kernel) (pa_cons (pe_dget (hu_of hr) (pe_fldK rfl (pv 0)) (pv 1) (fun _ _ => rfl)) pa_nil)))) pss_nil)
      (pss_one (ps_ret (pe_gm T.cl_Device (ok_Device_page T) (pe_fldK rfl (pv 0)) (hr.mono (by decide)) pass0S (pa_cons (pv 1) pa_nil)))))), ?_⟩
    walk_at "cx"
    walk_at "rd"
    rcases get_pr RPg.key n D.p2 with ⟨e1, e2⟩ | ⟨v, ds, e1, e2, _, a, rfl, i⟩
    · rw [e1]
      refine if_no ?_
      walk_at "rd"
      rcases get_pr RPg.key n D.p1 with ⟨e3, e4⟩ | ⟨v, ds, e3, e4, _, a, rfl, i⟩
      · rw [e3]
        refine if_no ?_
        walk_at "rd"
        refine ⟨q, Od, s.dev, n, rfl, D.dv, fun b H' hb k' h' => k b H' hb k' ?_⟩
        rw [h']; unfold gpg; rw [e2, e4]
      · rw [e3]
        refine if_so ?_
        walk_at "rd"
        refine x_dgI (.inl h1) e3 ?_
        walk_at "rd"
        refine x_lstL (SqL.of i.1) fun b H' hb k' h' => k b H' hb k' ?_
        rw [h']; unfold gpg; rw [e2, e4]
    · rw [e1]
      refine if_so ?_
      walk_at "rd"
      refine x_dgI (.inl h2) e1 ?_
      walk_at "rd"
      refine x_lstL (SqL.of i.1) fun b H' hb k' h' => k b H' hb k' ?_
      rw [h']; unfold gpg; rw [e2]
def sp_Pager_write (c : Cl) (K : PySem.W.Frag) : Sp := fun vs H Q _ => ∃ p q O Od s n l ds, vs = [.ref p, .int n, .ref l] ∧ PagAt c H p q O Od s ∧ SqL K H l (ds.map V.int) ∧ s.dir.length ≤ 1000000 ∧ ∀ H' O', PagAt c H' p q O' Od (pwr n ds s) → Stp O O' H H' → Q .non H'
theorem ok_Pager_write (T : Txt K mg c) : GM P w K mg base CX0 1 c.Pager "write" (sp_Pager_write c K) := by
  obtain ⟨f, fd, F, gf, gi⟩ := T.f_Pager_write
  have tc_Pager := T.cl_Pager; have tn_Pager_device := T.n_Pager_device; have tn_Pager_committed := T.n_Pager_committed; have tn_Pager_dirty := T.n_Pager_dirty
  refine ⟨f, fd, ["self", "number", "data"], F.ok sc_Pager_write ?_ (fun cdv A outer s H vs Q E hr h => ?_), ⟨gf, gi, F.kp⟩, (F.binds (ps := ["self", "number", "data"]) fun _ _ _ _ _ _ us hl => match us, hl with | [_, _, _], _ => rfl)⟩
  · rintro vs H Q E ⟨_, _, _, _, _, _, _, _, rfl, _⟩
    rfl
  · obtain ⟨p, q, O0, Od, s, n, l, ds, rfl, hP, hl, sm, k⟩ := h
    obtain ⟨O, dx, a1, a2, k1, k2, eO, D, og⟩ := hP.opn
    refine ⟨_, (pss_one (ps_dput (hu_of hr) (pe_fldK rfl (pv 0)) (pv 1) (pe_callTy (r := rLstQ K) c_list (by rfl) T.z_list (by decide +kernel) (pa_cons (pv 2) pa_nil)) rfl)), ?_⟩
    walk_at "cx"
    walk_at "rd"
    refine x_lstL hl fun b H1 hb kk hb1 => ?_
    have D1 := D.same kk
    have ho := D1.o
    have h2 := D1.h2
    have lk : k2.length = s.dir.length := D.p2.length
    walk_at "rd"
    refine x_dpI h2 (by omega) fun H2 e2 k2' => ?_
    have D2 := D1.put2 (ds := ds) ⟨hb1, by rw [eO]; exact .inr hb, D.fresh hb⟩ k2' e2
    exact k H2 _ (D2.clo eO) (Stp.nO (G := PagG p a1 a2 Od) ((kk.mono fun _ z => z.elim).trans k2' fun x z => .inl (.inr (.inr (.inl z)))) og)
def sp_Pager_field (c : Cl) : Sp := fun vs H Q _ => ∃ (p q : Addr) (O Od : Addr → Prop) (s : PgS) (k : Nat), vs = [.ref p, .int k] ∧ k ≤ 1000 ∧ PagAt c H p q O Od s ∧ ∀ H', Kp F0 H H' → Q (.int (fld s k)) H'
theorem ok_Pager_field (T : Txt K mg c) : GM P w K mg base CX0 4 c.Pager "field" (sp_Pager_field c) := by
  obtain ⟨f, fd, F, gf, gi⟩ := T.f_Pager_field
  obtain ⟨_, mg_FIELD_SIZE⟩ := T.m_FIELD_SIZE
  have tc_Pager := T.cl_Pager; have tn_Pager_device := T.n_Pager_device; have tn_Pager_committed := T.n_Pager_committed; have tn_Pager_dirty := T.n_Pager_dirty
  refine ⟨f, fd, ["self", "k"], F.ok sc_Pager_field ?_ (fun cdv A outer s H vs Q E hr h => ?_), ⟨gf, gi, F.kp⟩, (F.binds (ps := ["self", "k"]) fun _ _ _ _ _ _ us hl => match us, hl with | [_, _], _ => rfl)⟩
  · rintro vs H Q E ⟨_, _, _, _, _, _, rfl, _⟩
    rfl
  · obtain ⟨p, q, O0, Od, s, n, rfl, hn, hP, k⟩ := h
    obtain ⟨⟨dx, a1, a2, k1, k2, D⟩, _⟩ := id hP
    have ho := D.o
    refine ⟨_, (pss_one (ps_ret (pe_g (ok_read_number T) (hr.mono (by decide)) pass0S (pa_cons (pe_gm T.cl_Pager (ok_Pager_read T) (pv 0) (hr.mono (by decide)) pass0S (pa_cons pe_int pa_nil)) (pa_cons (pe_op op_mul (pe_glob (v := .int 4) rfl mg_FIELD_SIZE ⟨_, rfl⟩) (pv 1)) (pa_cons (pe_glob (v := .int 4) rfl mg_FIELD_SIZE ⟨_, rfl⟩) pa_nil)))))), ?_⟩
    walk_at "cx"
    walk_at "rd"
    refine ⟨p, q, O0, Od, s, 0, rfl, hP, fun b H1 hb k1 e1 => ?_⟩
    walk_at "rd"
    refine ⟨b, gpg s 0, 4 * n, 4, by simp, SqL.of e1, fun H2 k2 => ?_⟩
    exact k H2 (k1.trans k2 fun _ z => z.elim)
def sp_Pager_set_field (c : Cl) : Sp := fun vs H Q _ => ∃ (p q : Addr) (O Od : Addr → Prop) (s : PgS) (k : Nat) (v : Int), vs = [.ref p, .int k, .int v] ∧ PagAt c H p q O Od s ∧ s.dir.length ≤ 1000000 ∧ 4 * (k + 1) ≤ (gpg s 0).length ∧ (gpg s 0).length ≤ 1000000 ∧ ∀ H' O', PagAt c H' p q O' Od (setf k v s) → Stp O O' H H' → Q .non H'
theorem ok_Pager_set_field (T : Txt K mg c) : GM P w K mg base CX0 4 c.Pager "set_field" (sp_Pager_set_field c) := by
  obtain ⟨f, fd, F, gf, gi⟩ := T.f_Pager_set_field
  obtain ⟨_, mg_FIELD_SIZE⟩ := T.m_FIELD_SIZE
  have tc_Pager := T.cl_Pager; have tn_Pager_device := T.n_Pager_device; have tn_Pager_committed := T.n_Pager_committed; have tn_Pager_dirty := T.n_Pager_dirty
  refine ⟨f, fd, ["self", "k", "number"], F.ok sc_Pager_set_field ?_ (fun cdv A outer s H vs Q E hr h => ?_), ⟨gf, gi, F.kp⟩, (F.binds (ps := ["self", "k", "number"]) fun _ _ _ _ _ _ us hl => match us, hl with | [_, _, _], _ => rfl)⟩
  · rintro vs H Q E ⟨_, _, _, _, _, _, _, rfl, _⟩
    rfl
  · obtain ⟨p, q, O0, Od, s, n, v, rfl, hP, sm, hl, hz, k⟩ := h
    obtain ⟨⟨dx, a1, a2, k1, k2, D⟩, _⟩ := id hP
    have ho := D.o
    refine ⟨_, (pss_cons (ps_set (i := 3) sc_Pager_set_field.nd rfl (Or.inl rfl) (pe_gm T.cl_Pager (ok_Pager_read T) (pv 0) (hr.mono (by decide)) pass0S (pa_cons pe_int pa_nil)))
      (pss_cons (ps_asg (pe_g (ok_write_number T) (hr.mono (by decide)) pass0S (pa_cons (pe_glob (v := .int 4) rfl mg_FIELD_SIZE ⟨_, rfl⟩) (pa_cons (pv 2) pa_nil))) (pg_slS (pv 3) (pe_op op_mul (pe_glob (v := .int 4) rfl mg_FIELD_SIZE ⟨_, rfl⟩) (pv 1)) (pe_op op_mul (pe_glob (v := .int 4) rfl mg_FIELD_SIZE ⟨_, rfl⟩) (pe_op op_add (pv 1) pe_int))))
      (pss_one (ps_expr (pe_gm T.cl_Pager (ok_Pager_write T) (pv 0) (hr.mono (by decide)) pass0S (pa_cons pe_int (pa_cons (pv 3) pa_nil))))))), ?_⟩
    walk_at "cx"
    walk_at "rd"
    refine ⟨p, q, O0, Od, s, 0, rfl, hP, fun b H1 hb k1' e1 => ?_⟩
    walk_at "rd"
    refine ⟨4, v, rfl, by decide, fun b2 H2 hb2 k2 e2 => ?_⟩
    walk_at "rd"
    refine x_gsl ?_
    walk_at "rd"
    have nbb : b ≠ b2 := ne_of_none e1 hb2
    refine x_slS (k2.get e1 id) e2 nbb (by omega) (by omega) (by rw [List.length_map]; omega) (by rw [List.length_map, List.length_map, wn_len, sizeLine_eq]; omega) fun H3 e3 k3 => ?_
    have e3' : H3 b = some (.lst ((spl (gpg s 0) n v).map V.int)) := by
      rw [e3]
      unfold spl
      rw [show (4 * (n : Int)).toNat = 4 * n by omega, show (4 * ((n : Int) + 1)).toNat = 4 * (n + 1) by omega]
      simp only [List.map_append, List.map_take, List.map_drop]
    have k03 : Kp F0 H H3 := (k1'.trans k2 fun _ z => z.elim).trans k3 fun x z => .inr (by rw [z]; exact hb)
    have ho3 := k03.get ho id
    walk_at "rd"
    refine ⟨p, q, O0, Od, s, 0, b, _, rfl, hP.same k03, SqL.of e3', sm, fun H' O' P' s' => k H' O' P' ((Stp.pure k03).trans s')⟩
/-! what the page dicts hold -/
theorem aget_put_eq (l : List (Int × List Int)) (n : Int) (v : List Int) : aget (aput l n v) n = some v := by
  unfold aget aput
  split
  next h =>
    rw [List.find?_map]
    have e : ((fun q : Int × List Int => decide (q.1 = n)) ∘ fun q => if q.1 = n then (q.1, v) else q) = fun q => decide (q.1 = n) := by
      funext q; show decide ((if q.1 = n then (q.1, v) else q).1 = n) = _; split <;> rfl
    rw [e]
    cases z : l.find? fun q => decide (q.1 = n) with
    | none =>
      rw [List.find?_eq_none] at z
      rw [List.any_eq_true] at h
      obtain ⟨x, hx, hy⟩ := h
      exact absurd hy (z x hx)
    | some q =>
      have := List.find?_some z
      simp only [decide_eq_true_eq] at this
      simp [this]
  next h =>
    have z : l.find? (fun q => decide (q.1 = n)) = none := by
      rw [List.find?_eq_none]; intro x hx hy
      exact h (List.any_eq_true.mpr ⟨x, hx, hy⟩)
    rw [List.find?_append, z]; simp
theorem aget_put_ne (l : List (Int × List Int)) {n m : Int} (v : List Int) (h : m ≠ n) : aget (aput l n v) m = aget l m := by
  unfold aget aput
  split
  · rw [List.find?_map]
    have e : ((fun q : Int × List Int => decide (q.1 = m)) ∘ fun q => if q.1 = n then (q.1, v) else q) = fun q => decide (q.1 = m) := by
      funext q; show decide ((if q.1 = n then (q.1, v) else q).1 = m) = _; split <;> rfl
    rw [e]
    cases z : l.find? fun q => decide (q.1 = m) with
    | none => rfl
    | some q =>
      have := List.find?_some z
      simp only [decide_eq_true_eq] at this
      have q2 : q.1 ≠ n := fun y => h (this.symm.trans y)
      simp [q2]
  · rw [List.find?_append]
    have : ((n, v) :: []).find? (fun q : Int × List Int => decide (q.1 = m)) = none := by simp [h.symm]
    rw [this, Option.or_none]
theorem gpg_eq (s : PgS) (n : Int) (ds : List Int) : gpg (pwr n ds s) n = ds := by unfold gpg pwr; rw [aget_put_eq]
theorem gpg_ne (s : PgS) {n m : Int} (ds : List Int) (h : m ≠ n) : gpg (pwr n ds s) m = gpg s m := by unfold gpg pwr; rw [aget_put_ne _ _ h]
theorem pwr_len (s : PgS) (n : Int) (ds : List Int) : (pwr n ds s).dir.length ≤ s.dir.length + 1 := aput_len _ _ _
theorem spl_len {ds : List Int} {k : Nat} {v : Int} (h : 4 * (k + 1) ≤ ds.length) : (spl ds k v).length = ds.length := by
  unfold spl; simp only [List.length_append, List.length_take, List.length_drop, wn_len]; omega
theorem gpg_setf {s : PgS} {k : Nat} {v n : Int} (h : 4 * (k + 1) ≤ (gpg s 0).length) : (gpg (setf k v s) n).length = (gpg s n).length := by
  by_cases e : n = 0
  · subst e; unfold setf; rw [gpg_eq, spl_len h]
  · unfold setf; rw [gpg_ne _ _ e]
theorem setf_len (s : PgS) (k : Nat) (v : Int) : (setf k v s).dir.length ≤ s.dir.length + 1 := aput_len _ _ _
def sp_Pager_count_head (c : Cl) : Sp := fun vs H Q _ => ∃ (p q : Addr) (O Od : Addr → Prop) (s : PgS), vs = [.ref p] ∧ PagAt c H p q O Od s ∧ s.dir.length ≤ 1000000 ∧ (gpg s 0).length = 256 ∧ ∀ H' O', PagAt c H' p q O' Od (cnth s) → Stp O O' H H' → Q .non H'
theorem ok_Pager_count_head (T : Txt K mg c) : GM P w K mg base CX0 5 c.Pager "count_head" (sp_Pager_count_head c) := by
  obtain ⟨f, fd, F, gf, gi⟩ := T.f_Pager_count_head
  obtain ⟨_, mg_PAGES⟩ := T.m_PAGES
  have tc_Pager := T.cl_Pager; have tn_Pager_device := T.n_Pager_device; have tn_Pager_committed := T.n_Pager_committed; have tn_Pager_dirty := T.n_Pager_dirty
  refine ⟨f, fd, ["self"], F.ok sc_Pager_count_head ?_ (fun cdv A outer s H vs Q E hr h => ?_), ⟨gf, gi, F.kp⟩, (F.binds (ps := ["self"]) fun _ _ _ _ _ _ us hl => match us, hl with | [_], _ => rfl)⟩
  · rintro vs H Q E ⟨_, _, _, _, _, rfl, _⟩
    rfl
  · obtain ⟨p, q, O0, Od, s, rfl, hP, sm, hl, k⟩ := h
    obtain ⟨⟨dx, a1, a2, k1, k2, D⟩, _⟩ := id hP
    have ho := D.o
    refine ⟨_, (pss_one (ps_if (pt_cmpR op_eq (pe_gm T.cl_Pager (ok_Pager_field T) (pv 0) (hr.mono (by decide)) pass0S (pa_cons (pe_glob (v := .int 6) rfl mg_PAGES ⟨_, rfl⟩) pa_nil)) pe_int (nomark _)) (pss_one (ps_expr (pe_gm T.cl_Pager (ok_Pager_set_field T) (pv 0) (hr.mono (by decide)) pass0S (pa_cons (pe_glob (v := .int 6) rfl mg_PAGES ⟨_, rfl⟩) (pa_cons pe_int pa_nil))))) pss_nil)), ?_⟩
    walk_at "cx"
    walk_at "rd"
    refine ⟨p, q, O0, Od, s, 6, rfl, by decide, hP, fun H1 kk => ?_⟩
    have ho1 := kk.get ho id
    walk_at "rd"
    refine ite_dec (fun e => ?_) fun e => ?_
    · walk_at "rd"
      refine ⟨p, q, O0, Od, s, 6, 1, rfl, hP.same kk, sm, by omega, by omega, fun H' O' P' s' => k H' O' ?_ ((Stp.pure kk).trans s')⟩
      unfold cnth; rw [if_pos e]; exact P'
    · refine k H1 O0 ?_ (Stp.pure kk)
      unfold cnth; rw [if_neg e]; exact hP.same kk
def sp_Pager_allocate (c : Cl) : Sp := fun vs H Q _ => ∃ (p q : Addr) (O Od : Addr → Prop) (s : PgS), vs = [.ref p] ∧ PagAt c H p q O Od s ∧ s.dir.length ≤ 999998 ∧ (gpg s 0).length = 256 ∧ ∀ H' O', PagAt c H' p q O' Od (palloc s).1 → Stp O O' H H' → Q (.int (palloc s).2) H'
theorem ok_Pager_allocate (T : Txt K mg c) : GM P w K mg base CX0 5 c.Pager "allocate" (sp_Pager_allocate c) := by
  obtain ⟨f, fd, F, gf, gi⟩ := T.f_Pager_allocate
  obtain ⟨_, mg_PAGES⟩ := T.m_PAGES
  obtain ⟨_, mg_FREE⟩ := T.m_FREE
  obtain ⟨_, mg_FIELD_SIZE⟩ := T.m_FIELD_SIZE
  obtain ⟨_, mg_PAGE_SIZE⟩ := T.m_PAGE_SIZE
  have tc_Pager := T.cl_Pager; have tn_Pager_device := T.n_Pager_device; have tn_Pager_committed := T.n_Pager_committed; have tn_Pager_dirty := T.n_Pager_dirty
  refine ⟨f, fd, ["self"], F.ok sc_Pager_allocate ?_ (fun cdv A outer s H vs Q E hr h => ?_), ⟨gf, gi, F.kp⟩, (F.binds (ps := ["self"]) fun _ _ _ _ _ _ us hl => match us, hl with | [_], _ => rfl)⟩
  · rintro vs H Q E ⟨_, _, _, _, _, rfl, _⟩
    rfl
  · obtain ⟨p, q, O0, Od, s, rfl, hP, sm, hl, k⟩ := h
    obtain ⟨⟨dx, a1, a2, k1, k2, D⟩, _⟩ := id hP
    have ho := D.o
    refine ⟨_, (pss_cons (ps_set (i := 1) sc_Pager_allocate.nd rfl (Or.inl rfl) (pe_gm T.cl_Pager (ok_Pager_field T) (pv 0) (hr.mono (by decide)) pass0S (pa_cons (pe_glob (v := .int 7) rfl mg_FREE ⟨_, rfl⟩) pa_nil)))
      (C8.pss_cut (ps_if (pt_cmpR op_eq (pv 1) pe_int (nomark _)) (pss_cons (ps_set (i := 1) sc_Pager_allocate.nd rfl (Or.inl rfl) (pe_gm T.cl_Pager (ok_Pager_field T) (pv 0) (hr.mono (by decide)) pass0S (pa_cons (pe_glob (v := .int 6) rfl mg_PAGES ⟨_, rfl⟩) pa_nil)))
      (pss_one (ps_expr (pe_gm T.cl_Pager (ok_Pager_set_field T) (pv 0) (hr.mono (by decide)) pass0S (pa_cons (pe_glob (v := .int 6) rfl mg_PAGES ⟨_, rfl⟩) (pa_cons (pe_op op_add (pv 1) pe_int) pa_nil)))))) (pss_one (ps_expr (pe_gm T.cl_Pager (ok_Pager_set_field T) (pv 0) (hr.mono (by decide)) pass0S (pa_cons (pe_glob (v := .int 7) rfl mg_FREE ⟨_, rfl⟩) (pa_cons (pe_g (ok_read_number T) (hr.mono (by decide)) pass0S (pa_cons (pe_gm T.cl_Pager (ok_Pager_read T) (pv 0) (hr.mono (by decide)) pass0S (pa_cons (pv 1) pa_nil)) (pa_cons pe_int (pa_cons (pe_glob (v := .int 4) rfl mg_FIELD_SIZE ⟨_, rfl⟩) pa_nil)))) pa_nil))))))
      (pss_cons (ps_expr (pe_gm T.cl_Pager (ok_Pager_write T) (pv 0) (hr.mono (by decide)) pass0S (pa_cons (pv 1) (pa_cons (pe_op op_rep (pe_lst (pa_cons pe_int pa_nil)) (pe_glob (v := .int 256) rfl mg_PAGE_SIZE ⟨_, rfl⟩)) pa_nil))))
      (pss_one (ps_ret (pv 1)))))), ?_⟩
    walk_at "cx"
    walk_at "rd"
    refine ⟨p, q, O0, Od, s, 7, rfl, by decide, hP, fun H1 kk => ?_⟩
    have ho1 := kk.get ho id
    walk_at "rd"
    refine x_cut (fun σ' H' => ∃ n O' s', σ' = [some (.ref p), some (.int n)] ∧ PagAt c H' p q O' Od s' ∧ Stp O0 O' H H' ∧ s'.dir.length ≤ 1000000 ∧ palloc s = (pwr n zeros s', n)) ?_ ?_
    · walk_at "rd"
      refine ite_dec (fun e => ?_) fun e => ?_
      · walk_at "rd"
        refine ⟨p, q, O0, Od, s, 6, rfl, by decide, hP.same kk, fun H2 kk2 => ?_⟩
        have ho2 := kk2.get ho1 id
        walk_at "rd"
        refine ⟨p, q, O0, Od, s, 6, fld s 6 + 1, rfl, (hP.same kk).same kk2, by omega, by omega, by omega, fun H' O' P' s' => ?_⟩
        refine ⟨_, O', _, rfl, P', (Stp.pure (kk.trans kk2 fun _ z => z.elim)).trans s', by have := setf_len s 6 (fld s 6 + 1); omega, ?_⟩
        unfold palloc; rw [if_pos e]
      · walk_at "rd"
        refine ⟨p, q, O0, Od, s, fld s 7, rfl, hP.same kk, fun b H2 hb kk2 e2 => ?_⟩
        have ho2 := kk2.get ho1 id
        walk_at "rd"
        refine ⟨b, gpg s (fld s 7), 0, 4, rfl, SqL.of e2, fun H3 kk3 => ?_⟩
        rw [List.drop_zero]
        refine ⟨p, q, O0, Od, s, 7, _, rfl, ((hP.same kk).same kk2).same kk3, by omega, by omega, by omega, fun H' O' P' s' => ?_⟩
        refine ⟨_, O', _, rfl, P', (Stp.pure ((kk.trans kk2 fun _ z => z.elim).trans kk3 fun _ z => z.elim)).trans s', by have := setf_len s 7 (rn ((gpg s (fld s 7)).take 4)); omega, ?_⟩
        unfold palloc; rw [if_neg e]
    · rintro σ' H2 ⟨n, O', s', rfl, P', st, lz, ea⟩
      obtain ⟨⟨dx, a1, a2, k1, k2, D⟩, _⟩ := id P'
      have ho := D.o
      walk_at "rd"
      refine x_newL fun z0 H3 hz0 k3 e3 => ?_
      walk_at "rd"
      refine x_rep e3 (by decide) (by decide) fun z1 H4 hz1 k4 e4 => ?_
      have e4' : H4 z1 = some (.lst (zeros.map V.int)) := by rw [e4]; unfold zeros; rw [List.map_replicate]; rfl
      have k24 : Kp F0 H2 H4 := k3.trans k4 fun _ z => z.elim
      refine ⟨p, q, O', Od, s', n, z1, zeros, rfl, P'.same k24, SqL.of e4', lz, fun H5 O5 P5 s5 => ?_⟩
      walk_at "rd"
      have z := k H5 O5 (by rw [ea]; exact P5) ((st.trans (Stp.pure k24)).trans s5)
      rw [ea] at z
      exact z
def sp_Pager_release (c : Cl) : Sp := fun vs H Q _ => ∃ (p q : Addr) (O Od : Addr → Prop) (s : PgS) (n : Int), vs = [.ref p, .int n] ∧ PagAt c H p q O Od s ∧ s.dir.length ≤ 999998 ∧ (gpg s 0).length = 256 ∧ ∀ H' O', PagAt c H' p q O' Od (prel n s) → Stp O O' H H' → Q .non H'
theorem ok_Pager_release (T : Txt K mg c) : GM P w K mg base CX0 5 c.Pager "release" (sp_Pager_release c) := by
  obtain ⟨f, fd, F, gf, gi⟩ := T.f_Pager_release
  obtain ⟨_, mg_FREE⟩ := T.m_FREE
  obtain ⟨_, mg_FIELD_SIZE⟩ := T.m_FIELD_SIZE
  obtain ⟨_, mg_PAGE_SIZE⟩ := T.m_PAGE_SIZE
  have tc_Pager := T.cl_Pager; have tn_Pager_device := T.n_Pager_device; have tn_Pager_committed := T.n_Pager_committed; have tn_Pager_dirty := T.n_Pager_dirty
  refine ⟨f, fd, ["self", "number"], F.ok sc_Pager_release ?_ (fun cdv A outer s H vs Q E hr h => ?_), ⟨gf, gi, F.kp⟩, (F.binds (ps := ["self", "number"]) fun _ _ _ _ _ _ us hl => match us, hl with | [_, _], _ => rfl)⟩
  · rintro vs H Q E ⟨_, _, _, _, _, _, rfl, _⟩
    rfl
  · obtain ⟨p, q, O0, Od, s, n, rfl, hP, sm, hl, k⟩ := h
    obtain ⟨⟨dx, a1, a2, k1, k2, D⟩, _⟩ := id hP
    have ho := D.o
    refine ⟨_, (pss_cons (ps_expr (pe_gm T.cl_Pager (ok_Pager_write T) (pv 0) (hr.mono (by decide)) pass0S (pa_cons (pv 1) (pa_cons (pe_op op_cat (pe_g (ok_write_number T) (hr.mono (by decide)) pass0S (pa_cons (pe_glob (v := .int 4) rfl mg_FIELD_SIZE ⟨_, rfl⟩) (pa_cons (pe_gm T.cl_Pager (ok_Pager_field T) (pv 0) (hr.mono (by decide)) pass0S (pa_cons (pe_glob (v := .int 7) rfl mg_FREE ⟨_, rfl⟩) pa_nil)) pa_nil))) (pe_op op_rep (pe_lst (pa_cons pe_int pa_nil)) (pe_op op_sub (pe_glob (v := .int 256) rfl mg_PAGE_SIZE ⟨_, rfl⟩) (pe_glob (v := .int 4) rfl mg_FIELD_SIZE ⟨_, rfl⟩)))) pa_nil))))
      (pss_one (ps_expr (pe_gm T.cl_Pager (ok_Pager_set_field T) (pv 0) (hr.mono (by decide)) pass0S (pa_cons (pe_glob (v := .int 7) rfl mg_FREE ⟨_, rfl⟩) (pa_cons (pv 1) pa_nil)))))), ?_⟩
    walk_at "cx"
    walk_at "rd"
    refine ⟨p, q, O0, Od, s, 7, rfl, by decide, hP, fun H1 kk => ?_⟩
    have ho1 := kk.get ho id
    walk_at "rd"
    refine ⟨4, fld s 7, rfl, by decide, fun b H2 hb k2 e2 => ?_⟩
    walk_at "rd"
    refine x_newL fun z0 H3 hz0 k3 e3 => ?_
    walk_at "rd"
    refine x_rep e3 (by decide) (by decide) fun z1 H4 hz1 k4 e4 => ?_
    walk_at "rd"
    refine x_catL (k4.get (k3.get e2 id) id) e4 (by rw [List.length_map, wn_len, List.length_replicate]; decide) fun l H5 hl5 k5 e5 => ?_
    have e5' : H5 l = some (.lst ((wn 4 (fld s 7) ++ List.replicate 252 0).map V.int)) := by rw [e5, List.map_append, List.map_replicate]; rfl
    have k05 : Kp F0 H H5 := (((kk.trans k2 fun _ z => z.elim).trans k3 fun _ z => z.elim).trans k4 fun _ z => z.elim).trans k5 fun _ z => z.elim
    walk_at "rd"
    refine ⟨p, q, O0, Od, s, n, l, _, rfl, hP.same k05, SqL.of e5', by omega, fun H6 O6 P6 s6 => ?_⟩
    obtain ⟨⟨dx, a1, a2, k1, k2, D6⟩, _⟩ := id P6
    have ho6 := D6.o
    have l0 : (gpg (pwr n (wn 4 (fld s 7) ++ List.replicate 252 0) s) 0).length = 256 := by
      by_cases hn : (0 : Int) = n
      · rw [← hn, gpg_eq, List.length_append, wn_len, List.length_replicate]
      · rw [gpg_ne _ _ hn]; exact hl
    have l1 := pwr_len s n (wn 4 (fld s 7) ++ List.replicate 252 0)
    walk_at "rd"
    refine ⟨p, q, O6, Od, _, 7, n, rfl, P6, by omega, by omega, by omega, fun H7 O7 P7 s7 => k H7 O7 P7 (((Stp.pure k05).trans s6).trans s7)⟩
def sp_Pager_rollback (c : Cl) : Sp := fun vs H Q _ => ∃ (p q : Addr) (O Od : Addr → Prop) (s : PgS), vs = [.ref p] ∧ PagAt c H p q O Od s ∧ (gpg { s with dir := [] } 0).length = 256 ∧ ∀ H' O', PagAt c H' p q O' Od (proll s) → Stp O O' H H' → Q .non H'
theorem ok_Pager_rollback (T : Txt K mg c) : GM P w K mg base CX0 6 c.Pager "rollback" (sp_Pager_rollback c) := by
  obtain ⟨f, fd, F, gf, gi⟩ := T.f_Pager_rollback
  have tc_Pager := T.cl_Pager; have tn_Pager_device := T.n_Pager_device; have tn_Pager_committed := T.n_Pager_committed; have tn_Pager_dirty := T.n_Pager_dirty
  refine ⟨f, fd, ["self"], F.ok sc_Pager_rollback ?_ (fun cdv A outer s H vs Q E hr h => ?_), ⟨gf, gi, F.kp⟩, (F.binds (ps := ["self"]) fun _ _ _ _ _ _ us hl => match us, hl with | [_], _ => rfl)⟩
  · rintro vs H Q E ⟨_, _, _, _, _, rfl, _⟩
    rfl
  · obtain ⟨p, q, O0, Od, s, rfl, hP, hl, k⟩ := h
    obtain ⟨O, dx, a1, a2, k1, k2, eO, D, og⟩ := hP.opn
    have ho := D.o
    refine ⟨_, (pss_cons (ps_fld (pv 0) pe_dnewK rfl)
      (pss_one (ps_expr (pe_gm0 T.cl_Pager (ok_Pager_count_head T) (pv 0) (hr.mono (by decide)) pass0S)))), ?_⟩
    walk_at "cx"
    walk_at "rd"
    refine x_dnew fun e H1 he k1' e1 => ?_
    have ho1 := k1'.get ho id
    walk_at "rd"
    intro H2 p2 k2'
    have kz : Kp (F1 p) H H2 := (k1'.mono fun _ z => z.elim).trans k2' fun _ z => .inl z
    have nep : e ≠ p := (ne_of_none ho he).symm
    have D2 := D.new2 he kz p2 (k2'.get e1 nep) (by rw [eO]; exact .inr he)
    walk_at "rd"
    have P2 := D2.clo eO
    have S2 := Stp.nO (G := PagG p a1 a2 Od) (kz.mono fun _ z => .inl (.inl z)) og
    refine ⟨p, q, _, Od, _, rfl, P2, Nat.zero_le _, hl, fun H3 O3 P3 s3 => k H3 O3 P3 (S2.trans s3)⟩
end
/-! ### the pager's raising methods -/
theorem Kp.under {F : Addr → Prop} {H H' : Hp} (k : Kp F H H') (a : Addr) (u : HO) : Kp F (upd H a u) (upd H' a u) := fun b o h n => by
  by_cases e : b = a
  · subst e; rw [upd_same] at h ⊢; exact h
  · rw [upd_ne e] at h ⊢; exact k b o h n
theorem Wk.keys {d : Addr} {o : Obj} {kvs : List (Key × V)} : Wk (Itk d o kvs) (fun H => H d = some (.frz o (.dK kvs))) (kvs.map fun kv => kV kv.1) where
  go := fun i H h g => ⟨g, by rw [List.length_map] at h; exact h⟩
  yld := fun i H x H' h _ y => by
    obtain ⟨e, k, v, h1, h2⟩ := y
    exact ⟨e.symm, by rw [List.getElem?_map, h1, h2]; rfl⟩
  stop := fun H g => ⟨g, by rw [List.length_map]; exact Nat.le_refl _⟩
section
variable {σ : L2.St} {H : Hp} {D : Ends} {td : TE} {t : TS} {d : Addr} {u : HO} {R : It → Hp → Prop} {o : Obj} {kvs : List (Key × V)}
def rKeysQ (x : V) (H : Hp) (R : It → Hp → Prop) : Prop := ∃ d o, x = .ref d ∧ ((∃ kvs, H d = some (.frz o (.dK kvs)) ∧ R (Itk d o kvs) H) ∨ ∃ kvs, H d = some (.frz o (.dT kvs)) ∧ R (Itkt d o kvs) H)
theorem x_keys (h : td σ H fun x H1 => rKeysQ x H1 R) : iKeys td σ H R := h
theorem x_kq (h : H d = some (.frz o (.dK kvs))) (q : R (Itk d o kvs) H) : rKeysQ (.ref d) H R := ⟨d, o, rfl, .inl ⟨kvs, h, q⟩⟩
theorem x_lock (h : H d = some u) (m : Mut (some u)) (q : ∀ od, t ⟨fun σ' H' => H' d = some (.frz od u) ∧ D.nx σ' (upd H' d u), fun v H' => H' d = some (.frz od u) ∧ D.rt v (upd H' d u), fun σ' H' => H' d = some (.frz od u) ∧ D.bk σ' (upd H' d u), fun σ' H' => H' d = some (.frz od u) ∧ D.ct σ' (upd H' d u)⟩ σ (upd H d (.frz od u))) : tLock t D σ H := ⟨d, u, h, m, q⟩
end
/-- the keys, ascending -/
def skeys (l : List (Int × List Int)) : List Int := (l.map (·.1)).mergeSort fun a b => decide (a ≤ b)
theorem skeys_perm (l : List (Int × List Int)) : (skeys l).Perm (l.map (·.1)) := List.mergeSort_perm _ _
theorem skeys_sorted (l : List (Int × List Int)) : (skeys l).Pairwise (· ≤ ·) := by
  have h := List.pairwise_mergeSort (le := fun a b : Int => decide (a ≤ b)) (fun a b c h1 h2 => by simp only [decide_eq_true_eq] at *; omega) (fun a b => by simp only [Bool.or_eq_true, decide_eq_true_eq]; omega) (l.map (·.1))
  exact h.imp fun x => by simpa using x
theorem skeys_eq {l : List (Int × List Int)} {ys : List Int} (p : ys.Perm (l.map (·.1))) (s : ys.Pairwise (· ≤ ·)) : ys = skeys l :=
  List.Perm.eq_of_pairwise (fun a b _ _ h1 h2 => Int.le_antisymm h1 h2) s (skeys_sorted l) (p.trans (skeys_perm l).symm)
theorem skeys_len (l : List (Int × List Int)) : (skeys l).length = l.length := by rw [(skeys_perm l).length_eq, List.length_map]
def grp (l : List (Int × List Int)) : List (Int × List Int) := (skeys l).map fun n => (n, (aget l n).getD [])
theorem grp_at {l : List (Int × List Int)} {i : Nat} {n : Int} (h : (skeys l)[i]? = some n) : (grp l)[i]? = some (n, (aget l n).getD []) := by unfold grp; rw [List.getElem?_map, h]; rfl
theorem mem_skeys {l : List (Int × List Int)} {n : Int} (h : n ∈ skeys l) : ∃ d, aget l n = some d ∧ (n, d) ∈ l := by
  have h1 := (skeys_perm l).mem_iff.mp h
  obtain ⟨q, hq, e⟩ := List.mem_map.mp h1
  unfold aget
  cases z : l.find? fun q => decide (q.1 = n) with
  | none =>
    rw [List.find?_eq_none] at z
    exact absurd (decide_eq_true e) (z q hq)
  | some r =>
    have h2 := List.find?_some z
    simp only [decide_eq_true_eq] at h2
    exact ⟨r.2, rfl, by rw [← h2]; exact List.mem_of_find?_eq_some z⟩
theorem aget_mem {l : List (Int × List Int)} {q : Int × List Int} (h : q ∈ l) : ∃ d, aget l q.1 = some d := by
  unfold aget
  cases z : l.find? fun r => decide (r.1 = q.1) with
  | none =>
    rw [List.find?_eq_none] at z
    exact absurd (decide_eq_true rfl) (z q h)
  | some r => exact ⟨r.2, rfl⟩
def andD (r : DevS × Bool) (f : DevS → DevS × Bool) : DevS × Bool := if r.2 = true then f r.1 else r
def coms (l m : List (Int × List Int)) : List (Int × List Int) := l.foldl (fun a q => aput a q.1 ((aget l q.1).getD [])) m
def pcommit (s : PgS) : PgS × Bool := if s.dir.length = 0 then (s, true) else
  let r := andD (dApp (wg (grp s.dir)) s.dev) dSyncL
  (if r.2 = true then { dev := r.1, com := coms s.dir s.com, dir := [] } else { s with dev := r.1 }, r.2)
def pwrites : List (Int × List Int) → DevS → DevS × Bool
  | [], d => (d, true)
  | q :: r, d => if (dWrite q.1 q.2 d).2 = true then pwrites r (dWrite q.1 q.2 d).1 else (d, false)
def pckpt (s : PgS) : PgS × Bool :=
  let r := andD (andD (andD (pwrites (grp s.com) s.dev) dSyncP) (dByte none)) dSyncL
  (if r.2 = true then { s with dev := r.1, com := [] } else { s with dev := r.1 }, r.2)
/-- the sizes that hold everywhere -/
structure PgZ (s : PgS) : Prop where
  w : s.dev.writes.length ≤ 400000
  p : s.dev.pages.length + s.dev.writes.length ≤ 1000000
  l : s.dev.log.length + s.dev.steps.length ≤ 7000000
  z1 : Sz s.dev.pages
  z2 : Sz s.dev.writes
  nc : s.com.length < 64
  nd : s.dir.length < 64
  lc : ∀ q ∈ s.com, q.2.length = 256
  ld : ∀ q ∈ s.dir, q.2.length = 256 ∧ 0 ≤ q.1 ∧ q.1 < 256 ^ 4
theorem PgZ.good {s : PgS} (h : PgZ s) : Good (grp s.dir) ∨ 60 < s.dir.length := by
  by_cases q : s.dir.length ≤ 60
  · refine .inl ⟨by unfold grp; rw [List.length_map, skeys_len]; exact q, fun x hx => ?_⟩
    unfold grp at hx
    obtain ⟨n, hn, rfl⟩ := List.mem_map.mp hx
    obtain ⟨d, hd, hm⟩ := mem_skeys hn
    have := h.ld _ hm
    rw [hd]
    exact ⟨this.2.1, this.2.2, this.1⟩
  · exact .inr (by omega)
theorem dApp_sm : ∀ (bs : List Int) (d : DevS), (dApp bs d).1.pages = d.pages ∧ (dApp bs d).1.writes = d.writes ∧ (dApp bs d).1.log = d.log
  | [], _ => ⟨rfl, rfl, rfl⟩
  | b :: bs, d => by
    show (if (dByte (some b) d).2 = true then dApp bs (dByte (some b) d).1 else (d, false)).1.pages = d.pages ∧ (if (dByte (some b) d).2 = true then dApp bs (dByte (some b) d).1 else (d, false)).1.writes = d.writes ∧ (if (dByte (some b) d).2 = true then dApp bs (dByte (some b) d).1 else (d, false)).1.log = d.log
    have h := dApp_sm bs (dByte (some b) d).1
    have h2 : (dByte (some b) d).1.pages = d.pages ∧ (dByte (some b) d).1.writes = d.writes ∧ (dByte (some b) d).1.log = d.log := by
      unfold dByte pw; split <;> exact ⟨rfl, rfl, rfl⟩
    split
    · exact ⟨h.1.trans h2.1, h.2.1.trans h2.2.1, h.2.2.trans h2.2.2⟩
    · exact ⟨rfl, rfl, rfl⟩
theorem PgZ.sml {s : PgS} (h : PgZ s) : Sml s.dev := ⟨by have := h.w; omega, by have := h.p; omega, by have := h.l; omega, h.z1, h.z2⟩
theorem PgZ.app {s : PgS} (h : PgZ s) {bs : List Int} (hb : bs.length ≤ 900000) : Sml (dApp bs s.dev).1 := by
  have e := dApp_sm bs s.dev
  have e2 := dApp_steps bs s.dev
  have := h.w; have := h.p; have := h.l
  exact ⟨by rw [e.2.1]; omega, by rw [e.1, e.2.1]; omega, by rw [e.2.2]; omega, by rw [e.1]; exact h.z1, by rw [e.2.1]; exact h.z2⟩
/-- what a raising method of the pager promises -/
def spP (c : Cl) (H : Hp) (p q : Addr) (O : Addr → Prop) (r : PgS × Bool) (Q : Hp → Prop) (E : XK) : Prop :=
  ∀ H' O' Od', PagAt c H' p q O' Od' r.1 → Stp O O' H H' → if r.2 = true then Q H' else E (.ref c.PowerCut) none H'
theorem spP.yes {c : Cl} {H H' : Hp} {p q : Addr} {O O' Od' : Addr → Prop} {r : PgS × Bool} {s' : PgS} {Q : Hp → Prop} {E : XK} (k : spP c H p q O r Q E) (e : r = (s', true)) (P : PagAt c H' p q O' Od' s') (t : Stp O O' H H') : Q H' := by
  have z := k H' O' Od' (by rw [e]; exact P) t
  rw [e, if_pos rfl] at z
  exact z
theorem spP.no {c : Cl} {H H' : Hp} {p q : Addr} {O O' Od' : Addr → Prop} {r : PgS × Bool} {s' : PgS} {Q : Hp → Prop} {E : XK} (k : spP c H p q O r Q E) (e : r = (s', false)) (P : PagAt c H' p q O' Od' s') (t : Stp O O' H H') : E (.ref c.PowerCut) none H' := by
  have z := k H' O' Od' (by rw [e]; exact P) t
  rw [e, if_neg Bool.false_ne_true] at z
  exact z
theorem keys_pr {O G : Addr → Prop} {H : Hp} : ∀ {kvs : List (Key × V)} {l : List (Int × List Int)}, Paired (RPg H O G) kvs l → kvs.map (·.1) = (l.map (·.1)).map Sum.inl
  | _, _, .nil => rfl
  | _, _, .cons r t => by rw [List.map_cons, List.map_cons, List.map_cons, keys_pr t, r.1]
theorem getE' {xs : List Int} {i : Nat} {x : V} (h : (xs.map V.int)[i]? = some x) : ∃ n, xs[i]? = some n ∧ x = .int n := by
  rw [List.getElem?_map] at h
  cases q : xs[i]? with
  | none => rw [q] at h; cases h
  | some z => rw [q] at h; exact ⟨z, rfl, (Option.some.inj h).symm⟩
theorem get_some {O G : Addr → Prop} {H : Hp} {kvs : List (Key × V)} {l : List (Int × List Int)} {n : Int} {ds : List Int} (t : Paired (RPg H O G) kvs l) (h : aget l n = some ds) : ∃ a, valV kvs (.inl n) = some (.ref a) ∧ Im H O G a ds := by
  rcases get_pr RPg.key n t with ⟨e1, e2⟩ | ⟨v, ds', e1, e2, _, a, ev, i⟩
  · rw [e2] at h; cases h
  · rw [e2] at h; cases h
    exact ⟨a, by rw [e1]; exact congrArg some ev, i⟩
section
variable {P : Program} {w : World} {K : PySem.W.Frag} {mg : Str → Option Value} {base : Heap} {c : Cl}
def sp_Pager_commit (c : Cl) : Sp := fun vs H Q E => ∃ (p q : Addr) (O Od : Addr → Prop) (s : PgS), vs = [.ref p] ∧ PagAt c H p q O Od s ∧ PgZ s ∧ s.dir.length ≤ 60 ∧ spP c H p q O (pcommit s) (Q .non) E
theorem ok_Pager_commit (T : Txt K mg c) : GM P w K mg base (L2.CX P w) 3 c.Pager "commit" (sp_Pager_commit c) := by
  obtain ⟨f, fd, F, gf, gi⟩ := T.f_Pager_commit
  have tc_Device := T.cl_Device; have tn_Device_pages := T.n_Device_pages; have tn_Device_page_writes := T.n_Device_page_writes; have tn_Device_durable_log := T.n_Device_durable_log; have tn_Device_log_steps := T.n_Device_log_steps; have tn_Device_done := T.n_Device_done; have tn_Device_most := T.n_Device_most
  have tc_Pager := T.cl_Pager; have tn_Pager_device := T.n_Pager_device; have tn_Pager_committed := T.n_Pager_committed; have tn_Pager_dirty := T.n_Pager_dirty
  refine ⟨f, fd, ["self"], F.okX sc_Pager_commit ?_ (fun cdv A outer s0 H vs Q E hr h => ?_), ⟨gf, gi, F.kp⟩, (F.binds (ps := ["self"]) fun _ _ _ _ _ _ us hl => match us, hl with | [_], _ => rfl)⟩
  · rintro vs H Q E ⟨_, _, _, _, _, rfl, _⟩
    rfl
  · obtain ⟨p, q, O0, Od, s, rfl, hP, pz, d60, k⟩ := h
    obtain ⟨O, dx, a1, a2, k1, k2, eO, D, og⟩ := hP.opn
    have gd : Good (grp s.dir) := pz.good.resolve_right (by omega)
    have fr : ∀ {H'}, Kp (PagG p a1 a2 Od) H H' → ∀ b, H' b = none → O b := fun {H'} kk b hb => by
      rw [eO]
      by_cases z : O0 b
      · exact .inl z
      · exact .inr (kk.free hb fun g => z (og b g))
    have ho := D.o
    have h2 := D.h2
    have lk : k2.length = s.dir.length := D.p2.length
    have lg := wg_len gd
    have lgr : (grp s.dir).length = s.dir.length := by unfold grp; rw [List.length_map, skeys_len]
    refine ⟨_, (pss_cons (ps_if (pt_cmpR op_eq (pe_callB call_lenD (by rfl) T.z_len PySem.boot_len (pa_cons (pe_fldK rfl (pv 0)) pa_nil)) pe_int (nomark _)) (pss_one ps_retN) pss_nil)
      (pss_cons (ps_expr (pe_gm T.cl_Device (ok_Device_append T) (pe_fldK rfl (pv 0)) (hr.mono (by decide)) (passE (E := E) rfl rfl rfl rfl) (pa_cons (pe_g (ok_write_group T) (hr.mono (by decide)) pass0S (pa_cons (pe_lc (own := [("number", 1)]) (g := (gName 1)) (tt := tYes) rfl sc_Pager_commit.nd (pi_listK rfl (pe_callB (c_sortedDI rfl) (by rfl) T.z_sorted (by decide +kernel) (pa_cons (pe_fldK rfl (pv 0)) pa_nil))) (blkOk_by (N := ["self", "number"]) (sc := defScope s_Pager_commit) (by decide +kernel)) (fun _ _ _ _ _ => (pg_name (i := 1) sc_Pager_commit.nd rfl (Or.inl rfl))) (fun _ _ _ _ _ => pts_nil) (fun _ _ _ _ _ => (pe_tup (pa_cons (pv 1) (pa_cons (pe_dget (hu_of hr) (pe_fldK rfl (pv 0)) (pv 1) (fun _ _ => rfl)) pa_nil))))) pa_nil)) pa_nil)))
      (pss_cons (ps_expr (pe_gm0 T.cl_Device (ok_Device_sync_log T) (pe_fldK rfl (pv 0)) (hr.mono (by decide)) (passE (E := E) rfl rfl rfl rfl)))
      (pss_cons (ps_lock (ps_for (passes_of rfl) rfl (pi_keys (pe_fldK rfl (pv 0))) (pg_name (i := 1) sc_Pager_commit.nd rfl (Or.inl rfl)) (pss_one (ps_dput (hu_of hr) (pe_fldK rfl (pv 0)) (pv 1) (pe_dget (hu_of hr) (pe_fldK rfl (pv 0)) (pv 1) (fun _ _ => rfl)) rfl))))
      (pss_one (ps_fld (pv 0) pe_dnewK rfl)))))), ?_⟩
    walk_at "cx"
    walk_at "rd"
    refine ⟨a2, k2, rfl, h2, ?_⟩
    rw [lk]
    walk_at "rd"
    refine ite_dec (fun e => ?_) fun e => ?_
    · walk_at "rd"
      exact k.yes (s' := s) (by unfold pcommit; rw [if_pos (by omega)]) hP (Stp.refl _ _)
    · have epc : pcommit s = (if (andD (dApp (wg (grp s.dir)) s.dev) dSyncL).2 = true then { dev := (andD (dApp (wg (grp s.dir)) s.dev) dSyncL).1, com := coms s.dir s.com, dir := [] } else { s with dev := (andD (dApp (wg (grp s.dir)) s.dev) dSyncL).1 }, (andD (dApp (wg (grp s.dir)) s.dev) dSyncL).2) := by
        unfold pcommit; rw [if_neg (by omega)]
      obtain ⟨⟨dx2, b1, b2, b3, b4, kvs, ws, DD⟩, _⟩ := id D.dv
      have hq := DD.o
      walk_at "rd"
      refine x_srtD h2 (keys_pr D.p2) (by rw [List.length_map]; omega) fun ys ps H1 hy1 hy2 hps kk1 e1 => ?_
      obtain rfl := skeys_eq hy1 hy2
      have D1 := D.same kk1
      have ho1 := D1.o
      have hl1 : SqL K H1 ps ((skeys s.dir).map V.int) := SqL.of e1
      walk_at "rd"
      refine wlcH Wk.list F0 (fun D i acc H' => Paired (PAt (fun b => b ≠ D) H') acc ((grp s.dir).take i)) (fun b z => z.elim) (by rw [List.length_map, skeys_len]; omega) (fun D i acc H' _ kp => kp.sqL hl1 id) (fun D _ => .nil)
        (fun D i acc H' H4 kp hp => hp.mono fun _ _ x => x.kp kp fun b _ _ o z => o z)
        (fun D i x acc H' R R0 ex hD hacc hp kp hR _ => ?_) (fun gl H2 acc hgl egl hp kp2 => ?_)
      · obtain ⟨n, en, rfl⟩ := getE' ex
        obtain ⟨ds, hds, _⟩ := mem_skeys (List.mem_of_getElem? en)
        have D' := D1.same kp
        have ho' := D'.o
        have h2' := D'.h2
        obtain ⟨l, el, il⟩ := get_some D'.p2 hds
        walk_at "rd"
        refine ⟨rfl, ?_⟩
        walk_at "rd"
        refine x_dgI (.inl h2') el ?_
        walk_at "rd"
        refine x_newT fun t H3 ht k3 e3 => ?_
        refine hR _ H3 k3 ?_
        rw [List.take_succ, grp_at en]
        refine Paired.snoc (hp.mono fun _ _ x => x.kp k3 fun _ _ _ _ z => z) ⟨t, l, rfl, e3, ?_, fun z => ?_⟩
        · rw [hds]; exact k3.get il.1 id
        · have q1 := il.1
          obtain ⟨o1, q2⟩ : ∃ o, H1 l = some o := by
            obtain ⟨a', ea', ia'⟩ := get_some D1.p2 hds
            rw [el] at ea'; cases ea'
            exact ⟨_, ia'.1⟩
          rw [z, hD] at q2; cases q2
      rw [List.length_map, skeys_len, List.take_of_length_le (by omega)] at hp
      walk_at "rd"
      refine ⟨_, gl, acc, grp s.dir, rfl, SqL.of egl, hp, gd, fun bl H3 hbl k3 e3 => ?_⟩
      have k13 : Kp F0 H1 H3 := kp2.trans k3 fun _ z => z.elim
      have k03 : Kp F0 H H3 := kk1.trans k13 fun _ z => z.elim
      have D3 := D.same k03
      have hq3 := k03.get hq id
      have fbl : H bl = none := (kk1.trans kp2 fun _ z => z.elim).free hbl id
      have nod : ¬ Od bl := fun z => D.fresh fbl (.inr (.inr (.inr z)))
      walk_at "rd"
      refine ⟨q, Od, s.dev, bl, wg (grp s.dir), rfl, D3.dv, SqL.of e3, nod, pz.sml, by omega, fun H4 Od' V4 t4 => ?_⟩
      have kk3 : Kp (PagG p a1 a2 Od) H H3 := k03.mono fun _ z => z.elim
      have D4 := D3.dev V4 t4 (fr kk3)
      have kk4 : Kp (PagG p a1 a2 Od) H H4 := kk3.trans t4.kp fun _ z => .inl (.inr (.inr (.inr z)))
      have go : ∀ b, Od b ∨ H3 b = none → PagG p a1 a2 Od b ∨ H b = none := fun b z => by
        rcases z with z | z
        · exact .inl (.inr (.inr (.inr z)))
        · exact .inr (k03.free z id)
      refine ite_bool (fun e4 => ?_) fun e4 => ?_
      · have ho4 := D4.o
        obtain ⟨⟨dx4, c1, c2, c3, c4, kvs4, ws4, DD4⟩, _⟩ := id V4
        have hq4 := DD4.o
        walk_at "rd"
        refine ⟨q, Od', _, rfl, V4, pz.app (by omega), fun H5 Od5 V5 t5 => ?_⟩
        have D5 := D4.dev V5 t5 (fr kk4)
        have kk5 : Kp (PagG p a1 a2 Od) H H5 := kk4.trans t5.kp fun b z => go b (t4.gr b z)
        have ea : andD (dApp (wg (grp s.dir)) s.dev) dSyncL = dSyncL (dApp (wg (grp s.dir)) s.dev).1 := by unfold andD; rw [if_pos e4]
        rw [ea] at epc
        refine ite_bool (fun e5 => ?_) fun e5 => ?_
        · rw [if_pos e5, e5] at epc
          walk_at "rd"
          have h25 := D5.h2
          have np2 := D5.n2p
          refine x_lock h25 trivial fun od => ?_
          have k5L : Kp (PagG p a1 a2 Od) H (upd (upd H5 a2 (.frz od (.dK k2))) a2 (.dK k2)) := by rw [upd_upd, upd_id h25]; exact kk5
          have DL : PagA c O Od5 (upd (upd H5 a2 (.frz od (.dK k2))) a2 (.dK k2)) p q dx a1 a2 k1 k2 { s with dev := (dSyncL (dApp (wg (grp s.dir)) s.dev).1).1 } := by rw [upd_upd, upd_id h25]; exact D5
          have hp0 : (upd H5 a2 (.frz od (.dK k2)) : Hp) p = some (.ins c.Pager dx (F_Pager (.ref q) (.ref a1) (.ref a2))) := by rw [upd_ne np2]; exact D5.o
          refine x_for ?_
          refine x_keys ?_
          walk_at "rd"
          refine x_kq upd_same ?_
          refine wfor Wk.keys (fun i σ H' => ∃ k1' u, σ = [some (.ref p), u] ∧ H' a2 = some (.frz od (.dK k2)) ∧ PagA c O Od5 (upd H' a2 (.dK k2)) p q dx a1 a2 k1' k2 { s with dev := (dSyncL (dApp (wg (grp s.dir)) s.dev).1).1, com := (s.dir.take i).foldl (fun a q => aput a q.1 ((aget s.dir q.1).getD [])) s.com } ∧ k1'.length ≤ 100 + i ∧ Kp (PagG p a1 a2 Od) H (upd H' a2 (.dK k2)))
            ⟨k1, none, rfl, upd_same, DL, by have := D.p1.length; have := pz.nc; omega, k5L⟩ (fun i σ H' ⟨_, _, _, z, _⟩ => z) ?_ ?_
          · rintro i x σ H6 ex ⟨k1', u, rfl, e6, D6, l6, kk6⟩
            rw [List.getElem?_map] at ex
            cases e7 : k2[i]? with
            | none => rw [e7] at ex; cases ex
            | some kv =>
              rw [e7] at ex
              obtain ⟨r, er, rk, _⟩ := pget D6.p2 e7
              have er' : s.dir[i]? = some r := er
              have ex' : x = .int r.1 := (Option.some.inj ex).symm.trans (congrArg kV rk)
              subst ex'
              obtain ⟨ds, hds⟩ := aget_mem (List.mem_of_getElem? er')
              obtain ⟨l, el, il⟩ := get_some D6.p2 hds
              have ho6 : H6 p = some (.ins c.Pager dx (F_Pager (.ref q) (.ref a1) (.ref a2))) := by have z := D6.o; rwa [upd_ne D6.n2p] at z
              have h16 : H6 a1 = some (.dK k1') := by have z := D6.h1; rwa [upd_ne D6.ne] at z
              walk_at "rd"
              refine x_dgI (.inr ⟨od, e6⟩) el ?_
              walk_at "rd"
              refine x_dpI h16 (by have : i < k2.length := (List.getElem?_eq_some_iff.mp e7).1; omega) fun H7 e7' k7 => ?_
              have D7 := D6.put1 (ds := ds) il (k7.under a2 (.dK k2)) (by rw [upd_ne D6.ne]; exact e7')
              have l7 := D7.p1.length
              have l8 := aput_len ((s.dir.take i).foldl (fun a q => aput a q.1 ((aget s.dir q.1).getD [])) s.com) r.1 ds
              have l9 := D6.p1.length
              refine ⟨putK k1' (.inl r.1) (.ref l), some (.int r.1), rfl, k7.get e6 fun z => D6.ne z.symm, ?_, ?_, kk6.trans (k7.under a2 (.dK k2)) fun x z => .inl (.inr (.inl z))⟩
              · rw [List.take_succ, er', List.foldl_append]
                show PagA c O Od5 _ p q dx a1 a2 _ k2 { dev := _, com := aput _ r.1 ((aget s.dir r.1).getD []), dir := s.dir }
                rw [hds]
                exact D7
              · show _ ≤ 100 + (i + 1)
                rw [l7]
                refine Nat.le_trans l8 ?_
                rw [← show k1'.length = _ from l9]
                omega
          · rintro σ H6 ⟨k1', u, rfl, e6, D6, l6, kk6⟩
            rw [List.length_map, lk, List.take_length] at D6
            refine ⟨e6, ?_⟩
            have ho6 := D6.o
            generalize upd H6 a2 (.dK k2) = H7 at D6 kk6 ho6
            walk_at "rd"
            refine x_dnew fun e' H8 he' k8 e8 => ?_
            have ho8 := k8.get ho6 id
            walk_at "rd"
            intro H9 p9 k9
            have kz : Kp (F1 p) H7 H9 := (k8.mono fun _ z => z.elim).trans k9 fun _ z => .inl z
            have D9 := D6.new2 he' kz p9 (k9.get e8 (ne_of_none ho6 he').symm) (fr kk6 _ he')
            exact k.yes epc (D9.clo eO) (Stp.nO (kk6.trans kz fun _ z => .inl (.inl z)) og)
        · rw [if_neg (by rw [e5]; exact Bool.false_ne_true), e5] at epc
          exact k.no epc (D5.clo eO) (Stp.nO kk5 og)
      · have ea : andD (dApp (wg (grp s.dir)) s.dev) dSyncL = dApp (wg (grp s.dir)) s.dev := by unfold andD; rw [if_neg (by rw [e4]; exact Bool.false_ne_true)]
        rw [ea, if_neg (by rw [e4]; exact Bool.false_ne_true), e4] at epc
        exact k.no epc (D4.clo eO) (Stp.nO kk4 og)
theorem pwrites_app : ∀ (ws : List (Int × List Int)) (d : DevS) (q : Int × List Int), (pwrites ws d).2 = true → pwrites (ws ++ [q]) d = dWrite q.1 q.2 (pwrites ws d).1
  | [], d, q, _ => by
    show (if (dWrite q.1 q.2 d).2 = true then ((dWrite q.1 q.2 d).1, true) else (d, false)) = dWrite q.1 q.2 d
    unfold dWrite pw
    by_cases h : can d = true
    · rw [if_pos h, if_pos rfl]
    · rw [if_neg h, if_neg Bool.false_ne_true]
  | r :: ws, d, q, h => by
    show (if (dWrite r.1 r.2 d).2 = true then pwrites (ws ++ [q]) (dWrite r.1 r.2 d).1 else (d, false)) = _
    by_cases y : (dWrite r.1 r.2 d).2 = true
    · have e : pwrites (r :: ws) d = pwrites ws (dWrite r.1 r.2 d).1 := by show (if _ then _ else _) = _; rw [if_pos y]
      rw [if_pos y, e]
      rw [e] at h
      exact pwrites_app ws _ q h
    · have e : pwrites (r :: ws) d = (d, false) := by show (if _ then _ else _) = _; rw [if_neg y]
      rw [e] at h
      cases h
theorem dWrite_no {n : Int} {ds : List Int} {d : DevS} (h : (dWrite n ds d).2 = false) : (dWrite n ds d).1 = d := by
  unfold dWrite pw at *
  by_cases q : can d = true
  · rw [if_pos q] at h; cases h
  · rw [if_neg q]
theorem pwrites_stop : ∀ (ws vs : List (Int × List Int)) (d : DevS) (q : Int × List Int), (pwrites ws d).2 = true → (dWrite q.1 q.2 (pwrites ws d).1).2 = false → pwrites (ws ++ q :: vs) d = ((pwrites ws d).1, false)
  | [], vs, d, q, _, h => by
    show (if (dWrite q.1 q.2 d).2 = true then _ else (d, false)) = (d, false)
    rw [if_neg (by rw [show (dWrite q.1 q.2 d).2 = false from h]; exact Bool.false_ne_true)]
  | r :: ws, vs, d, q, h, g => by
    show (if (dWrite r.1 r.2 d).2 = true then pwrites (ws ++ q :: vs) (dWrite r.1 r.2 d).1 else (d, false)) = _
    by_cases y : (dWrite r.1 r.2 d).2 = true
    · have e : pwrites (r :: ws) d = pwrites ws (dWrite r.1 r.2 d).1 := by show (if _ then _ else _) = _; rw [if_pos y]
      rw [if_pos y, e]
      rw [e] at h g
      exact pwrites_stop ws vs _ q h g
    · have e : pwrites (r :: ws) d = (d, false) := by show (if _ then _ else _) = _; rw [if_neg y]
      rw [e] at h
      cases h
/-- the writes of a checkpoint change the pending writes alone -/
theorem pwrites_sm : ∀ (ws : List (Int × List Int)) (d : DevS), (pwrites ws d).1.pages = d.pages ∧ (pwrites ws d).1.log = d.log ∧ (pwrites ws d).1.steps = d.steps ∧ (pwrites ws d).1.writes.length ≤ d.writes.length + ws.length ∧ (Sz d.writes → Sz ws → Sz (pwrites ws d).1.writes)
  | [], d => ⟨rfl, rfl, rfl, Nat.le_refl _, fun h _ => h⟩
  | r :: ws, d => by
    have h := pwrites_sm ws (dWrite r.1 r.2 d).1
    by_cases y : (dWrite r.1 r.2 d).2 = true
    · have e : pwrites (r :: ws) d = pwrites ws (dWrite r.1 r.2 d).1 := by show (if _ then _ else _) = _; rw [if_pos y]
      rw [e]
      have e2 : dWrite r.1 r.2 d = ({ d with done := d.done + 1, writes := d.writes ++ [(r.1, r.2)] }, true) := by
        unfold dWrite pw at *
        by_cases q : can d = true
        · rw [if_pos q]
        · rw [if_neg q] at y; cases y
      rw [e2] at h ⊢
      refine ⟨h.1, h.2.1, h.2.2.1, ?_, fun h1 h2 => h.2.2.2.2 ?_ fun q hq => h2 q (List.mem_cons_of_mem _ hq)⟩
      · have := h.2.2.2.1
        simp only [List.length_append, List.length_cons, List.length_nil] at this ⊢
        omega
      · intro q hq
        rcases List.mem_append.mp hq with hq | hq
        · exact h1 q hq
        · rw [List.mem_singleton.mp hq]; exact h2 r (by simp)
    · have e : pwrites (r :: ws) d = (d, false) := by show (if _ then _ else _) = _; rw [if_neg y]
      rw [e]
      exact ⟨rfl, rfl, rfl, Nat.le_add_right _ _, fun h1 _ => h1⟩
theorem grp_sz {l : List (Int × List Int)} (h : ∀ q ∈ l, q.2.length = 256) : Sz (grp l) := fun x hx => by
  unfold grp at hx
  obtain ⟨n, hn, rfl⟩ := List.mem_map.mp hx
  obtain ⟨d, hd, hm⟩ := mem_skeys hn
  rw [hd]
  exact Nat.le_of_eq (h _ hm)
/-- the sizes that a checkpoint needs -/
structure CkZ (s : PgS) : Prop where
  w : s.dev.writes.length ≤ 400000
  p : s.dev.pages.length + s.dev.writes.length ≤ 1000000
  l : s.dev.log.length + s.dev.steps.length ≤ 7000000
  z1 : Sz s.dev.pages
  z2 : Sz s.dev.writes
  nc : s.com.length < 64
  lc : ∀ q ∈ s.com, q.2.length = 256
theorem PgZ.ck {s : PgS} (h : PgZ s) : CkZ s := ⟨h.w, h.p, h.l, h.z1, h.z2, h.nc, h.lc⟩
def sp_Pager_checkpoint (c : Cl) : Sp := fun vs H Q E => ∃ (p q : Addr) (O Od : Addr → Prop) (s : PgS), vs = [.ref p] ∧ PagAt c H p q O Od s ∧ CkZ s ∧ spP c H p q O (pckpt s) (Q .non) E
theorem andD_yes {r : DevS × Bool} {f : DevS → DevS × Bool} (h : r.2 = true) : andD r f = f r.1 := by unfold andD; rw [if_pos h]
theorem andD_no {r : DevS × Bool} {f : DevS → DevS × Bool} (h : r.2 = false) : andD r f = r := by unfold andD; rw [if_neg (by rw [h]; exact Bool.false_ne_true)]
theorem ok_Pager_checkpoint (T : Txt K mg c) : GM P w K mg base (L2.CX P w) 3 c.Pager "checkpoint" (sp_Pager_checkpoint c) := by
  obtain ⟨f, fd, F, gf, gi⟩ := T.f_Pager_checkpoint
  have tc_Device := T.cl_Device; have tn_Device_pages := T.n_Device_pages; have tn_Device_page_writes := T.n_Device_page_writes; have tn_Device_durable_log := T.n_Device_durable_log; have tn_Device_log_steps := T.n_Device_log_steps; have tn_Device_done := T.n_Device_done; have tn_Device_most := T.n_Device_most
  have tc_Pager := T.cl_Pager; have tn_Pager_device := T.n_Pager_device; have tn_Pager_committed := T.n_Pager_committed; have tn_Pager_dirty := T.n_Pager_dirty
  refine ⟨f, fd, ["self"], F.okX sc_Pager_checkpoint ?_ (fun cdv A outer s0 H vs Q E hr h => ?_), ⟨gf, gi, F.kp⟩, (F.binds (ps := ["self"]) fun _ _ _ _ _ _ us hl => match us, hl with | [_], _ => rfl)⟩
  · rintro vs H Q E ⟨_, _, _, _, _, rfl, _⟩
    rfl
  · obtain ⟨p, q, O0, Od, s, rfl, hP, pz, k⟩ := h
    obtain ⟨O, dx, a1, a2, k1, k2, eO, D, og⟩ := hP.opn
    have fr : ∀ {H'}, Kp (PagG p a1 a2 Od) H H' → ∀ b, H' b = none → O b := fun {H'} kk b hb => by
      rw [eO]
      by_cases z : O0 b
      · exact .inl z
      · exact .inr (kk.free hb fun g => z (og b g))
    have ho := D.o
    have h1 := D.h1
    have lk : k1.length = s.com.length := D.p1.length
    have lgr : (grp s.com).length = s.com.length := by unfold grp; rw [List.length_map, skeys_len]
    have gsz := grp_sz pz.lc
    have nc := pz.nc
    have pzw := pz.w; have pzp := pz.p; have pzl := pz.l
    refine ⟨_, (pss_cons (ps_for (passes_of rfl) rfl (pi_listK rfl (pe_callB (c_sortedDI rfl) (by rfl) T.z_sorted (by decide +kernel) (pa_cons (pe_fldK rfl (pv 0)) pa_nil))) (pg_name (i := 1) sc_Pager_checkpoint.nd rfl (Or.inl rfl)) (pss_one (ps_expr (pe_gm T.cl_Device (ok_Device_write_page T) (pe_fldK rfl (pv 0)) (hr.mono (by decide)) (passE (E := E) rfl rfl rfl rfl) (pa_cons (pv 1) (pa_cons (pe_dget (hu_of hr) (pe_fldK rfl (pv 0)) (pv 1) (fun _ _ => rfl)) pa_nil))))))
      (pss_cons (ps_expr (pe_gm0 T.cl_Device (ok_Device_sync_pages T) (pe_fldK rfl (pv 0)) (hr.mono (by decide)) (passE (E := E) rfl rfl rfl rfl)))
      (pss_cons (ps_expr (pe_gm0 T.cl_Device (ok_Device_clear T) (pe_fldK rfl (pv 0)) (hr.mono (by decide)) (passE (E := E) rfl rfl rfl rfl)))
      (pss_cons (ps_expr (pe_gm0 T.cl_Device (ok_Device_sync_log T) (pe_fldK rfl (pv 0)) (hr.mono (by decide)) (passE (E := E) rfl rfl rfl rfl)))
      (pss_one (ps_fld (pv 0) pe_dnewK rfl)))))), ?_⟩
    walk_at "cx"
    walk_at "rd"
    refine x_srtD h1 (keys_pr D.p1) (by rw [List.length_map]; omega) fun ys ps H1 hy1 hy2 hps kk1 e1 => ?_
    obtain rfl := skeys_eq hy1 hy2
    have D1 := D.same kk1
    have nps := D.fresh hps
    have go : ∀ b, Od b ∨ H1 b = none → PagG p a1 a2 Od b ∨ H b = none := fun b z => by
      rcases z with z | z
      · exact .inl (.inr (.inr (.inr z)))
      · exact .inr (kk1.free z id)
    walk_at "rd"
    refine wfor Wk.list (fun i σ H' => ∃ u Od', σ = [some (.ref p), u] ∧ (pwrites ((grp s.com).take i) s.dev).2 = true ∧ PagA c O Od' H' p q dx a1 a2 k1 k2 { s with dev := (pwrites ((grp s.com).take i) s.dev).1 } ∧ Stp Od Od' H1 H' ∧ Kp (PagG p a1 a2 Od) H H')
      ⟨none, Od, rfl, rfl, D1, Stp.refl _ _, kk1.mono fun _ z => z.elim⟩ (fun i σ H' ⟨_, _, _, _, _, t, _⟩ => SqL.of (t.kp.get e1 fun z => nps (.inr (.inr (.inr z))))) ?_ ?_
    · rintro i x σ H2 ex ⟨u, Od', rfl, hb, D2, t2, kk2⟩
      obtain ⟨n, en, rfl⟩ := getE' ex
      obtain ⟨ds, hds, _⟩ := mem_skeys (List.mem_of_getElem? en)
      obtain ⟨l, el, il⟩ := get_some D2.p1 hds
      have ho2 := D2.o
      have h12 := D2.h1
      obtain ⟨⟨dx2, b1, b2, b3, b4, kvs, ws, DD⟩, _⟩ := id D2.dv
      have hq := DD.o
      have tk : (grp s.com).take (i + 1) = (grp s.com).take i ++ [(n, ds)] := by rw [List.take_succ, grp_at en, hds]; rfl
      have sm := pwrites_sm ((grp s.com).take i) s.dev
      have tl : ((grp s.com).take i).length ≤ (grp s.com).length := by rw [List.length_take]; omega
      have sm4 := sm.2.2.2.1
      have sz0 : Sml (pwrites ((grp s.com).take i) s.dev).1 := ⟨by omega, by rw [sm.1]; omega, by rw [sm.2.1, sm.2.2.1]; omega, by rw [sm.1]; exact pz.z1, sm.2.2.2.2 pz.z2 fun x hx => gsz x (List.mem_of_mem_take hx)⟩
      walk_at "rd"
      refine x_dgI (.inl h12) el ?_
      walk_at "rd"
      refine ⟨q, Od', _, n, l, ds, rfl, D2.dv, SqL.of il.1, fun z => il.2.2 (.inr (.inr (.inr z))), sz0, fun H3 Od3 V3 t3 => ?_⟩
      have D3 := D2.dev V3 t3 (fr kk2)
      have kk3 : Kp (PagG p a1 a2 Od) H H3 := kk2.trans t3.kp fun b z => go b (t2.gr b z)
      have ea := pwrites_app ((grp s.com).take i) s.dev (n, ds) hb
      refine ite_bool (fun e3 => ?_) fun e3 => ?_
      · refine ⟨_, Od3, rfl, by rw [tk, ea]; exact e3, by rw [tk, ea]; exact D3, t2.trans t3, kk3⟩
      · have e : pwrites (grp s.com) s.dev = ((pwrites ((grp s.com).take i) s.dev).1, false) := by
          have q := pwrites_stop ((grp s.com).take i) ((grp s.com).drop (i + 1)) s.dev (n, ds) hb e3
          have hg := grp_at en
          rw [hds] at hg
          have hi : i < (grp s.com).length := (List.getElem?_eq_some_iff.mp hg).1
          have hbi : (grp s.com)[i] = (n, ds) := (List.getElem?_eq_some_iff.mp hg).2
          rw [← hbi, ← List.drop_eq_getElem_cons hi, List.take_append_drop] at q
          exact q
        have eq : pckpt s = ({ s with dev := (pwrites ((grp s.com).take i) s.dev).1 }, false) := by
          unfold pckpt; rw [e]; rfl
        rw [dWrite_no e3] at D3
        exact k.no eq (D3.clo eO) (Stp.nO kk3 og)
    · rintro σ H2 ⟨u, Od', rfl, hb, D2, t2, kk2⟩
      rw [List.length_map, skeys_len, ← lgr, List.take_length] at hb D2
      generalize hr1 : pwrites (grp s.com) s.dev = r1 at hb D2
      have sm := pwrites_sm (grp s.com) s.dev
      rw [hr1] at sm
      have sm4 := sm.2.2.2.1
      have eck : pckpt s = (if (andD (andD (dSyncP r1.1) (dByte none)) dSyncL).2 = true then { s with dev := (andD (andD (dSyncP r1.1) (dByte none)) dSyncL).1, com := [] } else { s with dev := (andD (andD (dSyncP r1.1) (dByte none)) dSyncL).1 }, (andD (andD (dSyncP r1.1) (dByte none)) dSyncL).2) := by
        unfold pckpt; rw [hr1, andD_yes hb]
      have sz1 : Sml r1.1 := ⟨by omega, by rw [sm.1]; omega, by rw [sm.2.1, sm.2.2.1]; omega, by rw [sm.1]; exact pz.z1, sm.2.2.2.2 pz.z2 gsz⟩
      have ho2 := D2.o
      obtain ⟨⟨dx2, b1, b2, b3, b4, kvs, ws, DD⟩, _⟩ := id D2.dv
      have hq := DD.o
      walk_at "rd"
      refine ⟨q, Od', _, rfl, D2.dv, sz1, fun H3 Od3 V3 t3 => ?_⟩
      have D3 := D2.dev V3 t3 (fr kk2)
      have kk3 : Kp (PagG p a1 a2 Od) H H3 := kk2.trans t3.kp fun b z => go b (t2.gr b z)
      have t23 := t2.trans t3
      refine ite_bool (fun e3 => ?_) fun e3 => ?_
      · rw [andD_yes e3] at eck
        have sz2 : Sml (dSyncP r1.1).1 := by
          have h1 := sz1.1; have h2 := sz1.2.1; have h3 := sz1.2.2.1
          unfold dSyncP pw; split
          · have := puts_len r1.1.writes r1.1.pages
            exact ⟨Nat.zero_le _, by show (r1.1.writes.foldl (fun l q => aput l q.1 q.2) r1.1.pages).length + 0 ≤ 2000000; omega, h3, puts_sz sz1.2.2.2.1 sz1.2.2.2.2, fun q hq => by cases hq⟩
          · exact sz1
        have sl2 : (dSyncP r1.1).1.log = r1.1.log ∧ (dSyncP r1.1).1.steps = r1.1.steps := by unfold dSyncP pw; split <;> exact ⟨rfl, rfl⟩
        have ho3 := D3.o
        obtain ⟨⟨dx3, c1, c2, c3, c4, kvs3, ws3, DD3⟩, _⟩ := id V3
        have hq3 := DD3.o
        walk_at "rd"
        refine ⟨q, Od3, _, rfl, D3.dv, sz2, fun H4 Od4 V4 t4 => ?_⟩
        have D4 := D3.dev V4 t4 (fr kk3)
        have kk4 : Kp (PagG p a1 a2 Od) H H4 := kk3.trans t4.kp fun b z => go b (t23.gr b z)
        have t24 := t23.trans t4
        refine ite_bool (fun e4 => ?_) fun e4 => ?_
        · rw [andD_yes e4] at eck
          have sz3 : Sml (dByte none (dSyncP r1.1).1).1 := by
            unfold dByte pw; split
            · refine ⟨sz2.1, sz2.2.1, ?_, sz2.2.2.2⟩
              show (dSyncP r1.1).1.log.length + ((dSyncP r1.1).1.steps ++ [none]).length ≤ 8000000
              rw [sl2.1, sl2.2, List.length_append, sm.2.1, sm.2.2.1]
              show _ + (_ + 1) ≤ _
              omega
            · exact sz2
          have ho4 := D4.o
          obtain ⟨⟨dx4, f1, f2, f3, f4, kvs4, ws4, DD4⟩, _⟩ := id V4
          have hq4 := DD4.o
          walk_at "rd"
          refine ⟨q, Od4, _, rfl, D4.dv, sz3, fun H5 Od5 V5 t5 => ?_⟩
          have D5 := D4.dev V5 t5 (fr kk4)
          have kk5 : Kp (PagG p a1 a2 Od) H H5 := kk4.trans t5.kp fun b z => go b (t24.gr b z)
          refine ite_bool (fun e5 => ?_) fun e5 => ?_
          · rw [if_pos e5, e5] at eck
            have ho5 := D5.o
            walk_at "rd"
            refine x_dnew fun e' H8 he' k8 e8 => ?_
            have ho8 := k8.get ho5 id
            walk_at "rd"
            intro H9 p9 k9
            have kz : Kp (F1 p) H5 H9 := (k8.mono fun _ z => z.elim).trans k9 fun _ z => .inl z
            have D9 := D5.new1 he' kz p9 (k9.get e8 (ne_of_none ho5 he').symm) (fr kk5 _ he')
            exact k.yes eck (D9.clo eO) (Stp.nO (kk5.trans kz fun _ z => .inl (.inl z)) og)
          · rw [if_neg (by rw [e5]; exact Bool.false_ne_true), e5] at eck
            exact k.no eck (D5.clo eO) (Stp.nO kk5 og)
        · rw [andD_no e4, if_neg (by rw [e4]; exact Bool.false_ne_true), e4] at eck
          exact k.no eck (D4.clo eO) (Stp.nO kk4 og)
      · rw [andD_no (f := dByte none) e3, andD_no e3, if_neg (by rw [e3]; exact Bool.false_ne_true), e3] at eck
        exact k.no eck (D3.clo eO) (Stp.nO kk3 og)
end
/-- the pages that the groups of a log hold -/
def puts (m : List (Int × List Int)) (g : List (Int × List Int)) : List (Int × List Int) := g.foldl (fun l q => aput l q.1 q.2) m
def pini0 (gs : List (List (Int × List Int))) (d : DevS) : PgS := { dev := d, com := gs.foldl puts [], dir := [] }
def pini1 (gs : List (List (Int × List Int))) (d : DevS) : PgS × Bool := if 0 < (clog d).length then pckpt (pini0 gs d) else (pini0 gs d, true)
def pinit (gs : List (List (Int × List Int))) (d : DevS) : PgS × Bool := if (pini1 gs d).2 = true then (cnth (pini1 gs d).1, true) else pini1 gs d
section
variable {P : Program} {w : World} {K : PySem.W.Frag} {mg : Str → Option Value} {base : Heap} {c : Cl}
theorem pini1_dir (gs : List (List (Int × List Int))) (d : DevS) : (pini1 gs d).1.dir = [] := by
  unfold pini1 pckpt
  split
  · dsimp only; split <;> rfl
  · rfl
def sp_Pager_init (c : Cl) : Sp := fun vs H Q E => ∃ (p dx q : Addr) (Od : Addr → Prop) (d : DevS) (gs : List (List (Int × List Int))) (more : List (Int × List Int)) (j : Nat), vs = [.ref p, .ref q] ∧ H p = some (.ins c.Pager dx []) ∧ DevAt c H q Od d ∧ ¬ Od p ∧
  clog d = gs.flatMap wg ++ (wg more).take j ∧ j < (wg more).length ∧ (∀ g ∈ gs, Good g) ∧ Good more ∧ gs.length ≤ 1000 ∧ CkZ (pini0 gs d) ∧ ((pini1 gs d).2 = true → (gpg (pini1 gs d).1 0).length = 256) ∧
  spP c H p q (fun b => b = p ∨ Od b) (pinit gs d) (Q .non) E
theorem mk_Pager (T : Txt K mg c) : GC P w K mg base (L2.CX P w) 6 "Pager" c.Pager (sp_Pager_init c) := by
  obtain ⟨f, fd, F, gf, gi⟩ := T.f_Pager___init__
  have tc_Device := T.cl_Device; have tn_Device_pages := T.n_Device_pages; have tn_Device_page_writes := T.n_Device_page_writes; have tn_Device_durable_log := T.n_Device_durable_log; have tn_Device_log_steps := T.n_Device_log_steps; have tn_Device_done := T.n_Device_done; have tn_Device_most := T.n_Device_most
  have tc_Pager := T.cl_Pager; have tn_Pager_device := T.n_Pager_device; have tn_Pager_committed := T.n_Pager_committed; have tn_Pager_dirty := T.n_Pager_dirty
  refine ⟨f, fd, ["self", "device"], F.okX sc_Pager___init__ ?_ (fun cdv A outer s0 H vs Q E hr h => ?_), ⟨T.mk_Pager.1, gf, gi, T.mk_Pager.2⟩, T.mg_Pager, (F.binds (ps := ["self", "device"]) fun _ _ _ _ _ _ us hl => match us, hl with | [_, _], _ => rfl)⟩
  · rintro vs H Q E ⟨_, _, _, _, _, _, _, _, rfl, _⟩
    rfl
  · obtain ⟨p, dx, q, Od, d, gs, more, j, rfl, hp, hd, nop, elog, hj, hgs, hm, lgs, pz, hpg, k⟩ := h
    refine ⟨_, (pss_cons (ps_fld (pv 0) (pv 1) rfl)
      (pss_cons (ps_fld (pv 0) pe_dnewK rfl)
      (pss_cons (ps_fld (pv 0) pe_dnewK rfl)
      (pss_cons (ps_set (i := 2) sc_Pager___init__.nd rfl (Or.inl rfl) (pe_gm0 T.cl_Device (ok_Device_log T) (pv 1) (hr.mono (by decide)) pass0S))
      (pss_cons (ps_for (passes_of rfl) rfl (pi_listK rfl (pe_g (ok_read_groups T) (hr.mono (by decide)) pass0S (pa_cons (pv 2) pa_nil))) (pg_name (i := 3) sc_Pager___init__.nd rfl (Or.inl rfl)) (pss_one (ps_for (passes_of rfl) rfl (pi_listK rfl (pv 3)) (pg_kT rfl (pg_tup (n := 2) rfl (pgs_cons (pg_name (i := 4) sc_Pager___init__.nd rfl (Or.inl rfl)) (pgs_cons (pg_name (i := 5) sc_Pager___init__.nd rfl (Or.inl rfl)) pgs_nil)))) (pss_one (ps_dput (hu_of hr) (pe_fldK rfl (pv 0)) (pv 4) (pv 5) rfl)))))
      (C8.pss_cut (ps_if (pt_cmpR op_gt (pe_callB (r := rLenQ K) c_len (by rfl) T.z_len PySem.boot_len (pa_cons (pv 2) pa_nil)) pe_int (nomark _)) (pss_one (ps_expr (pe_gm0 T.cl_Pager (ok_Pager_checkpoint T) (pv 0) (hr.mono (by decide)) (passE (E := E) rfl rfl rfl rfl)))) pss_nil)
      (pss_one (ps_expr (pe_gm0 T.cl_Pager (ok_Pager_count_head T) (pv 0) (hr.mono (by decide)) pass0S))))))))), ?_⟩
    walk_at "cx"
    walk_at "rd"
    intro H1 p1 k1
    walk_at "rd"
    refine x_dnew fun a1 H2 ha1 k2 e1 => ?_
    have n1 : p ≠ a1 := ne_of_none p1 ha1
    walk_at "rd"
    intro H3 p3 k3
    have e13 := k3.get e1 n1.symm
    walk_at "rd"
    refine x_dnew fun a2 H4 ha2 k4 e2 => ?_
    have n2 : p ≠ a2 := ne_of_none p3 ha2
    have n12 : a1 ≠ a2 := ne_of_none e13 ha2
    walk_at "rd"
    intro H5 p5 k5
    have e15 := k5.get (k4.get e13 id) n1.symm
    have e25 := k5.get e2 n2.symm
    have k13 : Kp (F1 p) H H3 := ((k1.trans k2 fun _ z => z.elim).trans k3 fun _ z => .inl z)
    have k05 : Kp (F1 p) H H5 := (k13.trans k4 fun _ z => z.elim).trans k5 fun _ z => .inl z
    have fa1 : H a1 = none := k1.free ha1 n1.symm
    have fa2 : H a2 = none := k13.free ha2 n2.symm
    have V5 := hd.off k05 fun b z o => nop (by rw [← z]; exact o)
    obtain ⟨⟨dx2, b1, b2, b3, b4, kvs, ws, DD⟩, _⟩ := id V5
    have hq := DD.o
    generalize eO : (fun x => (x = p ∨ Od x) ∨ H x = none) = O
    have D5 : PagA c O Od H5 p q dx a1 a2 [] [] { dev := d, com := [], dir := [] } := by
      refine ⟨p5, V5, e15, .nil, e25, .nil, n12, nop, fun z => hd.fresh fa1 z, fun z => hd.fresh fa2 z, fun b z => ?_⟩
      rw [← eO]
      rcases z with z | z | z | z
      · exact .inl (.inl z)
      · rw [z]; exact .inr fa1
      · rw [z]; exact .inr fa2
      · exact .inl (.inr z)
    have pzw := pz.w; have pzp := pz.p; have pzl := pz.l
    have smd : Sml d := ⟨by show (pini0 gs d).dev.writes.length ≤ _; omega, by show (pini0 gs d).dev.pages.length + (pini0 gs d).dev.writes.length ≤ _; omega, by show (pini0 gs d).dev.log.length + (pini0 gs d).dev.steps.length ≤ _; omega, pz.z1, pz.z2⟩
    walk_at "rd"
    refine ⟨q, Od, d, rfl, V5, smd, fun lg H6 hlg k6 e6 => ?_⟩
    walk_at "rd"
    refine ⟨lg, clog d, gs, more, j, rfl, SqL.of e6, elog, hj, hgs, hm, by omega, fun r H7 hr7 k7 hr => ?_⟩
    have D6 := D5.same k6
    have D7 := D6.same k7
    have e67 := k7.get e6 id
    obtain ⟨vs, er, or, hv⟩ := id hr
    have k06 : Kp (F1 p) H H6 := k05.trans k6 fun _ z => z.elim
    have k07 : Kp (F1 p) H H7 := k06.trans k7 fun _ z => z.elim
    have na1 : ∀ b, H6 b = none → b ≠ a1 := fun b hb z => by
      have := D6.h1
      rw [← z, hb] at this; cases this
    walk_at "rd"
    refine wfor Wk.list (fun i σ H' => ∃ k1' u3 u4 u5, σ = [some (.ref p), some (.ref q), some (.ref lg), u3, u4, u5] ∧ PagA c O Od H' p q dx a1 a2 k1' [] { dev := d, com := (gs.take i).foldl puts [], dir := [] } ∧ k1'.length ≤ 60 * i ∧ Kp (F1 a1) H7 H')
      ⟨[], none, none, none, rfl, D7, Nat.le_refl _, Kp.refl _⟩ (fun i σ H' ⟨_, _, _, _, _, _, _, kk⟩ => SqL.of (kk.get er (na1 _ or))) ?_ ?_
    · rintro i x σ H8 ex ⟨k1', u3, u4, u5, rfl, D8, l8, kk8⟩
      obtain ⟨g, eg, hg⟩ := pgt hv ex
      have gg := hgs g (List.mem_of_getElem? eg)
      obtain ⟨a, ws2, rfl, ha, oa, hw⟩ := hg.kp kk8 fun b _ _ o => na1 b o
      walk_at "rd"
      refine wfor Wk.list (fun t σ H' => ∃ k1' u4 u5, σ = [some (.ref p), some (.ref q), some (.ref lg), some (.ref a), u4, u5] ∧ PagA c O Od H' p q dx a1 a2 k1' [] { dev := d, com := (g.take t).foldl (fun l q => aput l q.1 q.2) ((gs.take i).foldl puts []), dir := [] } ∧ k1'.length ≤ 60 * i + t ∧ Kp (F1 a1) H7 H' ∧ Kp (F1 a1) H8 H')
        ⟨k1', u4, u5, rfl, D8, l8, kk8, Kp.refl _⟩ (fun i σ H' ⟨_, _, _, _, _, _, _, kk⟩ => SqL.of (kk.get ha (na1 _ oa))) ?_ ?_
      · rintro t y σ H9 ey ⟨k1'', u4, u5, rfl, D9, l9, kk9, kk89⟩
        obtain ⟨r', er', tp, l, rfl, ht, hl, ol⟩ := pgt hw ey
        have ht9 := kk89.tup ht
        have hl9 := kk89.get hl (na1 _ ol)
        have ho9 := D9.o
        have h19 := D9.h1
        have lt : t < g.length := (List.getElem?_eq_some_iff.mp er').1
        have := gg.n
        have li : i < gs.length := (List.getElem?_eq_some_iff.mp eg).1
        walk_at "rd"
        refine x_dpI h19 (by omega) fun H10 e10 k10 => ?_
        have D10 := D9.put1 (ds := r'.2) ⟨hl9, by rw [← eO]; exact .inr (k06.free ol fun z => by rw [z, D6.o] at ol; cases ol), D6.fresh ol⟩ k10 e10
        have l10 := D10.p1.length
        have l11 := aput_len ((g.take t).foldl (fun l q => aput l q.1 q.2) ((gs.take i).foldl puts [])) r'.1 r'.2
        have l12 := D9.p1.length
        refine ⟨putK k1'' (.inl r'.1) (.ref l), some (.int r'.1), some (.ref l), rfl, ?_, ?_, kk9.trans k10 fun _ z => .inl z, kk89.trans k10 fun _ z => .inl z⟩
        · rw [List.take_succ, er', List.foldl_append]
          exact D10
        · rw [l10]
          refine Nat.le_trans l11 ?_
          rw [← show k1''.length = _ from l12]
          omega
      · rintro σ H9 ⟨k1'', u4, u5, rfl, D9, l9, kk9, kk89⟩
        rw [show ws2.length = g.length from hw.length] at D9 l9
        rw [List.take_length] at D9
        refine ⟨k1'', some (.ref a), u4, u5, rfl, ?_, by have := gg.n; omega, kk9⟩
        rw [List.take_succ, eg, List.foldl_append]
        exact D9
    · rintro σ H8 ⟨k1', u3, u4, u5, rfl, D8, l8, kk8⟩
      rw [show vs.length = gs.length from hv.length, List.take_length] at D8
      have e68 := kk8.get e67 (fun z => by
        have := D7.h1
        rw [← z, e67] at this; cases this)
      have k08 : Kp (fun b => b = p ∨ Od b) H H8 := (k07.mono fun _ z => .inl (.inl z)).trans kk8 fun x z => .inr (by rw [z]; exact fa1)
      have P8 : PagAt c H8 p q (nO (fun b => b = p ∨ Od b) H H8) Od (pini0 gs d) := D8.clo eO.symm
      have S8 : Stp (fun b => b = p ∨ Od b) (nO (fun b => b = p ∨ Od b) H H8) H H8 := Stp.nO k08 fun _ z => z
      have ho8 := D8.o
      walk_at "rd"
      refine x_cut (fun σ' H' => ∃ O' Od' u3 u4 u5, σ' = [some (.ref p), some (.ref q), some (.ref lg), u3, u4, u5] ∧ (pini1 gs d).2 = true ∧ PagAt c H' p q O' Od' (pini1 gs d).1 ∧ Stp (fun b => b = p ∨ Od b) O' H H') ?_ ?_
      · walk_at "rd"
        rw [List.length_map]
        refine ite_dec (fun e => ?_) fun e => ?_
        · have ei : pini1 gs d = pckpt (pini0 gs d) := by unfold pini1; rw [if_pos (by omega)]
          walk_at "rd"
          refine ⟨p, q, _, Od, _, rfl, P8, pz, fun H9 O9 Od9 P9 s9 => ?_⟩
          rw [← ei] at P9 ⊢
          refine ite_bool (fun e9 => ?_) fun e9 => ?_
          · exact ⟨O9, Od9, u3, u4, u5, rfl, e9, P9, S8.trans s9⟩
          · have ep : pinit gs d = ((pini1 gs d).1, false) := by unfold pinit; rw [if_neg (by rw [e9]; exact Bool.false_ne_true)]; rw [← e9]
            exact k.no ep P9 (S8.trans s9)
        · have ei : pini1 gs d = (pini0 gs d, true) := by unfold pini1; rw [if_neg (by omega)]
          exact ⟨_, Od, u3, u4, u5, rfl, by rw [ei], by rw [ei]; exact P8, S8⟩
      · rintro σ' H9 ⟨O9, Od9, u3, u4, u5, rfl, e9, P9, s9⟩
        obtain ⟨⟨dx, a1, a2, k1, k2, D9⟩, _⟩ := id P9
        have ho9 := D9.o
        have ep : pinit gs d = (cnth (pini1 gs d).1, true) := by unfold pinit; rw [if_pos e9]
        walk_at "rd"
        refine ⟨p, q, O9, Od9, _, rfl, P9, by rw [pini1_dir]; exact Nat.zero_le _, hpg e9, fun H10 O10 P10 s10 => ?_⟩
        exact k.yes ep P10 (s9.trans s10)
end
/-! ### views of a pager, in plain Lean -/
def vf (v : Int → List Int) (k : Nat) : Int := rn (((v 0).drop (4 * k)).take 4)
def vput (v : Int → List Int) (n : Int) (ds : List Int) : Int → List Int := fun m => if m = n then ds else v m
def vset (v : Int → List Int) (k : Nat) (x : Int) : Int → List Int := vput v 0 (spl (v 0) k x)
def vcn (v : Int → List Int) : Int → List Int := if vf v 6 = 0 then vset v 6 1 else v
theorem fld_vf (s : PgS) (k : Nat) : fld s k = vf (gpg s) k := rfl
theorem gpg_pwr (s : PgS) (n : Int) (ds : List Int) : gpg (pwr n ds s) = vput (gpg s) n ds := by
  funext m; unfold vput
  by_cases e : m = n
  · rw [if_pos e, e, gpg_eq]
  · rw [if_neg e, gpg_ne _ _ e]
theorem gpg_set (s : PgS) (k : Nat) (x : Int) : gpg (setf k x s) = vset (gpg s) k x := gpg_pwr _ _ _
theorem gpg_cnth (s : PgS) : gpg (cnth s) = vcn (gpg s) := by
  unfold cnth vcn; rw [fld_vf]
  split
  · exact gpg_set _ _ _
  · rfl
theorem spl_fld {ds : List Int} {k j : Nat} {x : Int} (h0 : 0 ≤ x) (h1 : x < 256 ^ 4) (hk : 4 * (k + 1) ≤ ds.length) :
    rn (((spl ds k x).drop (4 * j)).take 4) = if j = k then x else rn ((ds.drop (4 * j)).take 4) := by
  have l1 : (ds.take (4 * k)).length = 4 * k := by rw [List.length_take]; omega
  have l2 : (ds.take (4 * k) ++ wn 4 x).length = 4 * (k + 1) := by rw [List.length_append, l1, wn_len]; omega
  by_cases e : j = k
  · subst e
    rw [if_pos rfl]
    unfold spl
    rw [List.append_assoc, List.drop_left' l1, List.take_left' (wn_len 4 x), rn_wn 4 x h0 h1]
  · rw [if_neg e]
    congr 1
    unfold spl
    by_cases q : j < k
    · rw [List.append_assoc, List.drop_append_of_le_length (by omega), List.take_append_of_le_length (by rw [List.length_drop]; omega), List.drop_take, List.take_take, show min 4 (4 * k - 4 * j) = 4 by omega]
    · rw [List.drop_append, List.drop_eq_nil_of_le (by omega), List.nil_append, l2, List.drop_drop, show 4 * (k + 1) + (4 * j - 4 * (k + 1)) = 4 * j by omega]
theorem vset_vf {v : Int → List Int} {k j : Nat} {x : Int} (h0 : 0 ≤ x) (h1 : x < 256 ^ 4) (hk : 4 * (k + 1) ≤ (v 0).length) : vf (vset v k x) j = if j = k then x else vf v j := by
  unfold vf vset vput
  rw [if_pos rfl]
  exact spl_fld h0 h1 hk
theorem vset_ne (v : Int → List Int) (k : Nat) (x : Int) {n : Int} (h : n ≠ 0) : vset v k x n = v n := if_neg h
theorem vput_vf (v : Int → List Int) {n : Int} (ds : List Int) (h : n ≠ 0) (k : Nat) : vf (vput v n ds) k = vf v k := by
  unfold vf vput; rw [if_neg (Ne.symm h)]
theorem vput_ne (v : Int → List Int) {n m : Int} (ds : List Int) (h : m ≠ n) : vput v n ds m = v m := if_neg h
theorem vput_eq (v : Int → List Int) (n : Int) (ds : List Int) : vput v n ds n = ds := if_pos rfl
/-- the law's model -/
structure LM where
  pgs : List (Int × List Int)
  many : Int
  free : List Int
  taken : List Int
def Chain (f : Int → Int) : Int → List Int → Prop
  | h, [] => h = 0
  | h, n :: r => h = n ∧ Chain f (f n) r
theorem Chain.mono {f g : Int → Int} : ∀ {l : List Int} {h : Int}, (∀ n ∈ l, f n = g n) → Chain f h l → Chain g h l
  | [], _, _, c => c
  | n :: r, _, e, c => ⟨c.1, by rw [← e n (by simp)]; exact Chain.mono (fun m hm => e m (List.mem_cons_of_mem _ hm)) c.2⟩
theorem Chain.head {f : Int → Int} {h : Int} : ∀ {l : List Int}, Chain f h l → h = (l ++ [0]).headD 0
  | [], c => c
  | _ :: _, c => c.1
structure Rel (i : Nat) (v : Int → List Int) (M : LM) : Prop where
  z : ∀ n, (v n).length = 256
  many : vf v 6 = M.many
  chain : Chain (fun n => rn ((v n).take 4)) (vf v 7) M.free
  head : aget M.pgs 0 = some [vf v 3]
  tk : ∀ n ∈ M.taken, aget M.pgs n = some (v n)
  nd : (M.free ++ M.taken).Nodup
  rg : ∀ n ∈ M.free ++ M.taken, 1 ≤ n ∧ n < M.many
  m1 : 1 ≤ M.many
  mb : M.many ≤ 1 + i
  pl : M.pgs.length ≤ 1 + 2 * i
  fl : M.free.length + M.taken.length ≤ i
theorem Rel.up {i : Nat} {v : Int → List Int} {M : LM} (h : Rel i v M) : Rel (i + 1) v M :=
  ⟨h.z, h.many, h.chain, h.head, h.tk, h.nd, h.rg, h.m1, by have := h.mb; omega, by have := h.pl; omega, by have := h.fl; omega⟩
theorem Rel.ne0 {i : Nat} {v : Int → List Int} {M : LM} (h : Rel i v M) {n : Int} (hn : n ∈ M.free ++ M.taken) : n ≠ 0 := by have := (h.rg n hn).1; omega
/-- field 3 is set -/
theorem Rel.three {i : Nat} {v : Int → List Int} {M : LM} {x : Int} (h : Rel i v M) (h0 : 0 ≤ x) (h1 : x < 256 ^ 4) : Rel (i + 1) (vset v 3 x) { M with pgs := aput M.pgs 0 [x] } := by
  have hz : 4 * (3 + 1) ≤ (v 0).length := by rw [h.z]; decide
  have f : ∀ j, vf (vset v 3 x) j = if j = 3 then x else vf v j := fun j => vset_vf h0 h1 hz
  refine ⟨fun n => ?_, ?_, ?_, ?_, fun n hn => ?_, h.nd, h.rg, h.m1, h.up.mb, ?_, h.up.fl⟩
  · by_cases e : n = 0
    · subst e; unfold vset; rw [vput_eq, spl_len hz]; exact h.z 0
    · rw [vset_ne _ _ _ e]; exact h.z n
  · rw [f]; exact h.many
  · rw [f]
    exact h.chain.mono fun n hn => by
      show rn ((v n).take 4) = rn ((vset v 3 x n).take 4)
      rw [vset_ne _ _ _ (h.ne0 (List.mem_append.mpr (.inl hn)))]
  · rw [f]; exact aget_put_eq _ _ _
  · rw [aget_put_ne _ _ (h.ne0 (List.mem_append.mpr (.inr hn))), vset_ne _ _ _ (h.ne0 (List.mem_append.mpr (.inr hn)))]
    exact h.tk n hn
  · have := aput_len M.pgs 0 [x]; have := h.pl; show (aput M.pgs 0 [x]).length ≤ _; omega
/-- a taken page is written -/
theorem Rel.write {i : Nat} {v : Int → List Int} {M : LM} {n : Int} {ds : List Int} (h : Rel i v M) (hn : n ∈ M.taken) (hl : ds.length = 256) : Rel (i + 1) (vput v n ds) { M with pgs := aput M.pgs n ds } := by
  have n0 := h.ne0 (List.mem_append.mpr (.inr hn))
  have dis : ∀ m ∈ M.free, m ≠ n := fun m hm e => by
    subst e
    exact (List.nodup_append.mp h.nd).2.2 m hm m hn rfl
  refine ⟨fun m => ?_, ?_, ?_, ?_, fun m hm => ?_, h.nd, h.rg, h.m1, h.up.mb, ?_, h.up.fl⟩
  · unfold vput; split
    · exact hl
    · exact h.z m
  · rw [vput_vf _ _ n0]; exact h.many
  · rw [vput_vf _ _ n0]
    exact h.chain.mono fun m hm => by
      show rn ((v m).take 4) = rn ((vput v n ds m).take 4)
      rw [vput_ne _ _ (dis m hm)]
  · rw [vput_vf _ _ n0, aget_put_ne _ _ n0.symm]; exact h.head
  · by_cases e : m = n
    · subst e; rw [aget_put_eq, vput_eq]
    · rw [aget_put_ne _ _ e, vput_ne _ _ e]; exact h.tk m hm
  · have := aput_len M.pgs n ds; have := h.pl; show (aput M.pgs n ds).length ≤ _; omega
theorem zeros_len : zeros.length = 256 := by unfold zeros; rw [List.length_replicate]
/-- a new page -/
theorem Rel.grow {i : Nat} {v : Int → List Int} {M : LM} (h : Rel i v M) (hf : M.free = []) (hi : i ≤ 1000) : Rel (i + 1) (vput (vset v 6 (vf v 6 + 1)) (vf v 6) zeros) { pgs := aput M.pgs M.many zeros, many := M.many + 1, free := [], taken := M.taken ++ [M.many] } := by
  have hz : 4 * (6 + 1) ≤ (v 0).length := by rw [h.z]; decide
  have m1 := h.m1; have mb := h.mb
  rw [h.many]
  have n0 : M.many ≠ 0 := by omega
  have f : ∀ j, vf (vput (vset v 6 (M.many + 1)) M.many zeros) j = if j = 6 then M.many + 1 else vf v j := fun j => by
    rw [vput_vf _ _ n0]; exact vset_vf (by omega) (by omega) hz
  have nd := h.nd
  rw [hf, List.nil_append] at nd
  have rg := h.rg
  rw [hf, List.nil_append] at rg
  refine ⟨fun n => ?_, ?_, ?_, ?_, fun n hn => ?_, ?_, fun n hn => ?_, by show (1 : Int) ≤ M.many + 1; omega, by show M.many + 1 ≤ 1 + ((i + 1 : Nat) : Int); omega, ?_, ?_⟩
  · unfold vput; split
    · exact zeros_len
    · unfold vset vput; split
      · rw [spl_len hz]; exact h.z 0
      · exact h.z n
  · rw [f, if_pos rfl]
  · rw [f]
    have := h.chain
    rw [hf] at this
    exact this
  · rw [f]; show aget (aput M.pgs M.many zeros) 0 = _; rw [aget_put_ne _ _ n0.symm]; exact h.head
  · show aget (aput M.pgs M.many zeros) n = _
    rcases List.mem_append.mp hn with hn | hn
    · have := rg n hn
      rw [aget_put_ne _ _ (by omega), vput_ne _ _ (by omega), vset_ne _ _ _ (by omega)]; exact h.tk n hn
    · rw [List.mem_singleton.mp hn, aget_put_eq, vput_eq]
  · show (([] : List Int) ++ (M.taken ++ [M.many])).Nodup
    rw [List.nil_append, List.nodup_append]
    refine ⟨nd, by simp, fun a ha b hb => ?_⟩
    rw [List.mem_singleton.mp hb]
    have := rg a ha
    omega
  · have hn : n ∈ M.taken ++ [M.many] := hn
    show 1 ≤ n ∧ n < M.many + 1
    rcases List.mem_append.mp hn with hn | hn
    · have := rg n hn; omega
    · rw [List.mem_singleton.mp hn]; omega
  · have := aput_len M.pgs M.many zeros; have := h.pl; show (aput M.pgs M.many zeros).length ≤ _; omega
  · have := h.fl; rw [hf] at this
    show 0 + (M.taken ++ [M.many]).length ≤ i + 1
    rw [List.length_append]; simp only [List.length_nil, List.length_singleton] at *; omega
/-- the first free page -/
theorem Rel.reuse {i : Nat} {v : Int → List Int} {M : LM} {n : Int} {r : List Int} (h : Rel i v M) (hf : M.free = n :: r) (hi : i ≤ 1000) :
    vf v 7 = n ∧ n ≠ 0 ∧ Rel (i + 1) (vput (vset v 7 (rn ((v n).take 4))) n zeros) { pgs := aput M.pgs n zeros, many := M.many, free := r, taken := M.taken ++ [n] } := by
  have hz : 4 * (7 + 1) ≤ (v 0).length := by rw [h.z]; decide
  have m1 := h.m1; have mb := h.mb
  have c := h.chain
  rw [hf] at c
  have nd := h.nd
  rw [hf] at nd
  have rg := h.rg
  rw [hf] at rg
  have n0 : n ≠ 0 := by have := (rg n (by simp)).1; omega
  have hx := c.2.head
  have xb : 0 ≤ rn ((v n).take 4) ∧ rn ((v n).take 4) < 256 ^ 4 := by
    show 0 ≤ (fun n => rn ((v n).take 4)) n ∧ (fun n => rn ((v n).take 4)) n < 256 ^ 4
    rw [hx]
    cases r with
    | nil => exact ⟨by decide, by decide⟩
    | cons y r => have := rg y (by simp); show 0 ≤ y ∧ y < 256 ^ 4; omega
  have f : ∀ j, vf (vput (vset v 7 (rn ((v n).take 4))) n zeros) j = if j = 7 then rn ((v n).take 4) else vf v j := fun j => by
    rw [vput_vf _ _ n0]; exact vset_vf xb.1 xb.2 hz
  have dis : ∀ m ∈ r, m ≠ n := fun m hm e => by
    subst e
    rw [List.cons_append, List.nodup_cons] at nd
    exact nd.1 (List.mem_append.mpr (.inl hm))
  have dis2 : ∀ m ∈ M.taken, m ≠ n := fun m hm e => by
    subst e
    rw [List.cons_append, List.nodup_cons] at nd
    exact nd.1 (List.mem_append.mpr (.inr hm))
  refine ⟨c.1, n0, fun m => ?_, ?_, ?_, ?_, fun m hm => ?_, ?_, fun m hm => ?_, m1, h.up.mb, ?_, ?_⟩
  · unfold vput; split
    · exact zeros_len
    · unfold vset vput; split
      · rw [spl_len hz]; exact h.z 0
      · exact h.z m
  · rw [f]; exact h.many
  · rw [f, if_pos rfl]
    exact c.2.mono fun m hm => by
      have m0 := (rg m (by simp [hm])).1
      show rn ((v m).take 4) = rn ((vput (vset v 7 (rn ((v n).take 4))) n zeros m).take 4)
      rw [vput_ne _ _ (dis m hm), vset_ne _ _ _ (by omega)]
  · rw [f]; show aget (aput M.pgs n zeros) 0 = _; rw [aget_put_ne _ _ n0.symm]; exact h.head
  · show aget (aput M.pgs n zeros) m = _
    rcases List.mem_append.mp hm with hm | hm
    · have m0 := (rg m (by simp [hm])).1
      rw [aget_put_ne _ _ (dis2 m hm), vput_ne _ _ (dis2 m hm), vset_ne _ _ _ (by omega)]; exact h.tk m hm
    · rw [List.mem_singleton.mp hm, aget_put_eq, vput_eq]
  · show (r ++ (M.taken ++ [n])).Nodup
    have p : (r ++ (M.taken ++ [n])).Perm (n :: r ++ M.taken) := by
      rw [← List.append_assoc]; exact List.perm_append_singleton n (r ++ M.taken)
    exact p.nodup_iff.mpr nd
  · have hm : m ∈ r ++ (M.taken ++ [n]) := hm
    refine rg m ?_
    simp only [List.mem_append, List.mem_cons, List.mem_singleton, List.not_mem_nil, or_false] at hm ⊢
    rcases hm with q | q | q
    · exact .inl (.inr q)
    · exact .inr q
    · exact .inl (.inl q)
  · have := aput_len M.pgs n zeros; have := h.pl; show (aput M.pgs n zeros).length ≤ _; omega
  · have q : (n :: r).length + M.taken.length ≤ i := by rw [← hf]; exact h.fl
    rw [List.length_cons] at q
    show r.length + (M.taken ++ [n]).length ≤ i + 1
    rw [List.length_append, List.length_singleton]; omega
theorem erase_perm : ∀ {l : List Int} {j : Nat} {n : Int}, l[j]? = some n → (n :: l.eraseIdx j).Perm l
  | x :: l, 0, n, h => by
    simp only [List.getElem?_cons_zero, Option.some.injEq] at h
    subst h
    exact List.Perm.refl _
  | x :: l, j + 1, n, h => by
    rw [List.getElem?_cons_succ] at h
    exact (List.Perm.swap x n _).trans ((erase_perm h).cons x)
  | [], _, _, h => by simp at h
/-- a taken page is released -/
theorem Rel.rel {i : Nat} {v : Int → List Int} {M : LM} {n : Int} {j : Nat} (h : Rel i v M) (hn : M.taken[j]? = some n) (hi : i ≤ 1000) :
    Rel (i + 1) (vset (vput v n (wn 4 (vf v 7) ++ List.replicate 252 0)) 7 n) { M with free := n :: M.free, taken := M.taken.eraseIdx j } := by
  have m1 := h.m1; have mb := h.mb
  have hm := List.mem_of_getElem? hn
  have rn' := h.rg n (List.mem_append.mpr (.inr hm))
  have n0 : n ≠ 0 := by omega
  have lw : (wn 4 (vf v 7) ++ List.replicate 252 (0 : Int)).length = 256 := by rw [List.length_append, wn_len, List.length_replicate]
  have v0 : vput v n (wn 4 (vf v 7) ++ List.replicate 252 0) 0 = v 0 := vput_ne _ _ n0.symm
  have hz : 4 * (7 + 1) ≤ (vput v n (wn 4 (vf v 7) ++ List.replicate 252 0) 0).length := by rw [v0, h.z]; decide
  have f : ∀ j, vf (vset (vput v n (wn 4 (vf v 7) ++ List.replicate 252 0)) 7 n) j = if j = 7 then n else vf v j := fun j => by
    rw [vset_vf (by omega) (by omega) hz, vput_vf _ _ n0]
  have x7 : 0 ≤ vf v 7 ∧ vf v 7 < 256 ^ 4 := by
    have c := h.chain.head
    rw [c]
    cases e : M.free with
    | nil => exact ⟨by decide, by decide⟩
    | cons y r => have := h.rg y (by rw [e]; simp); show 0 ≤ y ∧ y < 256 ^ 4; omega
  have hj : j < M.taken.length := (List.getElem?_eq_some_iff.mp hn).1
  have hg : M.taken[j] = n := (List.getElem?_eq_some_iff.mp hn).2
  have pt : (n :: M.taken.eraseIdx j).Perm M.taken := erase_perm hn
  have p : (n :: M.free ++ M.taken.eraseIdx j).Perm (M.free ++ M.taken) := (List.perm_middle.symm).trans (List.Perm.append_left _ pt)
  have nd' : (n :: M.free ++ M.taken.eraseIdx j).Nodup := p.nodup_iff.mpr h.nd
  have ni : n ∉ M.free ++ M.taken.eraseIdx j := by rw [List.cons_append, List.nodup_cons] at nd'; exact nd'.1
  refine ⟨fun m => ?_, ?_, ?_, ?_, fun m hm' => ?_, nd', fun m hm' => h.rg m (p.mem_iff.mp hm'), m1, h.up.mb, h.up.pl, ?_⟩
  · unfold vset
    by_cases e : m = 0
    · subst e; rw [vput_eq, spl_len hz, v0]; exact h.z 0
    · rw [vput_ne _ _ e]; unfold vput; split
      · exact lw
      · exact h.z m
  · rw [f]; exact h.many
  · rw [f, if_pos rfl]
    refine ⟨rfl, ?_⟩
    have e : rn ((vset (vput v n (wn 4 (vf v 7) ++ List.replicate 252 0)) 7 n n).take 4) = vf v 7 := by
      rw [vset_ne _ _ _ n0, vput_eq, List.take_left' (wn_len 4 _)]
      exact rn_wn 4 _ x7.1 x7.2
    show Chain _ (rn ((vset (vput v n (wn 4 (vf v 7) ++ List.replicate 252 0)) 7 n n).take 4)) M.free
    rw [e]
    exact h.chain.mono fun m hm' => by
      have m0 := (h.rg m (List.mem_append.mpr (.inl hm'))).1
      have mn : m ≠ n := fun z => ni (by rw [← z]; exact List.mem_append.mpr (.inl hm'))
      show rn ((v m).take 4) = rn ((vset (vput v n (wn 4 (vf v 7) ++ List.replicate 252 0)) 7 n m).take 4)
      rw [vset_ne _ _ _ (by omega), vput_ne _ _ mn]
  · rw [f]; exact h.head
  · have hm2 : m ∈ M.taken := List.mem_of_mem_eraseIdx hm'
    have m0 := (h.rg m (List.mem_append.mpr (.inr hm2))).1
    have mn : m ≠ n := fun z => ni (by rw [← z]; exact List.mem_append.mpr (.inr hm'))
    rw [vset_ne _ _ _ (by omega), vput_ne _ _ mn]
    exact h.tk m hm2
  · have := h.fl
    show (n :: M.free).length + (M.taken.eraseIdx j).length ≤ i + 1
    rw [List.length_eraseIdx_of_lt hj, List.length_cons]; omega
/-! ### a pager whose device has power without end -/
def Zc (l : List (Int × List Int)) : Prop := ∀ q ∈ l, q.2.length = 256
theorem aput_zc {l : List (Int × List Int)} {n : Int} {ds : List Int} (h : Zc l) (hd : ds.length = 256) : Zc (aput l n ds) := by
  intro q hq
  unfold aput at hq
  split at hq
  · obtain ⟨r, hr, rfl⟩ := List.mem_map.mp hq
    split
    · exact hd
    · exact h r hr
  · rcases List.mem_append.mp hq with hq | hq
    · exact h q hq
    · rw [List.mem_singleton.mp hq]; exact hd
theorem aget_mem' {l : List (Int × List Int)} {n : Int} {d : List Int} (h : aget l n = some d) : (n, d) ∈ l := by
  unfold aget at h
  cases z : l.find? fun q => decide (q.1 = n) with
  | none => rw [z] at h; cases h
  | some r =>
    rw [z] at h
    have h2 := List.find?_some z
    simp only [decide_eq_true_eq] at h2
    cases h
    rw [← h2]; exact List.mem_of_find?_eq_some z
theorem aput_mem {l : List (Int × List Int)} {n : Int} {ds : List Int} {q : Int × List Int} (h : q ∈ aput l n ds) : q ∈ l ∨ q = (n, ds) := by
  unfold aput at h
  split at h
  · obtain ⟨r, hr, rfl⟩ := List.mem_map.mp h
    split
    · rename_i e; exact .inr (by rw [e])
    · exact .inl hr
  · rcases List.mem_append.mp h with h | h
    · exact .inl h
    · exact .inr (List.mem_singleton.mp h)
/-- many puts by keys -/
def kput (f : Int → List Int) (ks : List Int) (m : List (Int × List Int)) : List (Int × List Int) := ks.foldl (fun a k => aput a k (f k)) m
theorem aget_kput (f : Int → List Int) : ∀ (ks : List Int) (m : List (Int × List Int)) (n : Int), aget (kput f ks m) n = if n ∈ ks then some (f n) else aget m n
  | [], m, n => by simp [kput]
  | k :: ks, m, n => by
    show aget (kput f ks (aput m k (f k))) n = _
    rw [aget_kput f ks]
    by_cases h : n ∈ ks
    · rw [if_pos h, if_pos (List.mem_cons_of_mem _ h)]
    · rw [if_neg h]
      by_cases e : n = k
      · subst e; rw [aget_put_eq, if_pos (by simp)]
      · rw [aget_put_ne _ _ e, if_neg (by simp [e, h])]
theorem kput_len (f : Int → List Int) : ∀ (ks : List Int) (m : List (Int × List Int)), (kput f ks m).length ≤ m.length + ks.length
  | [], _ => Nat.le_refl _
  | k :: ks, m => by
    have h1 := kput_len f ks (aput m k (f k))
    have h2 := aput_len m k (f k)
    show (kput f ks (aput m k (f k))).length ≤ m.length + (ks.length + 1)
    omega
theorem kput_zc {f : Int → List Int} : ∀ {ks : List Int} {m : List (Int × List Int)}, Zc m → (∀ k ∈ ks, (f k).length = 256) → Zc (kput f ks m)
  | [], _, h, _ => h
  | k :: ks, m, h, g => kput_zc (ks := ks) (aput_zc h (g k (by simp))) fun x hx => g x (List.mem_cons_of_mem _ hx)
def fv (l : List (Int × List Int)) (n : Int) : List Int := (aget l n).getD []
theorem coms_k (l m : List (Int × List Int)) : coms l m = kput (fv l) (l.map (·.1)) m := by unfold coms kput fv; rw [List.foldl_map]
theorem puts_k (l m : List (Int × List Int)) : puts m (grp l) = kput (fv l) (skeys l) m := by unfold puts grp kput fv; rw [List.foldl_map]
theorem fv_z {l : List (Int × List Int)} (h : Zc l) {n : Int} (hn : n ∈ l.map (·.1)) : (fv l n).length = 256 := by
  obtain ⟨d, e, m⟩ := mem_skeys ((skeys_perm l).mem_iff.mpr hn)
  unfold fv; rw [e]; exact h _ m
theorem key_iff (l : List (Int × List Int)) (n : Int) : n ∈ l.map (·.1) ↔ aget l n ≠ none := by
  constructor
  · intro h z
    obtain ⟨d, e, _⟩ := mem_skeys ((skeys_perm l).mem_iff.mpr h)
    rw [z] at e; cases e
  · intro h
    cases e : aget l n with
    | none => exact absurd e h
    | some d => exact List.mem_map.mpr ⟨(n, d), aget_mem' e, rfl⟩
def orD (a b : Option (List Int)) : Option (List Int) := match a with
  | some d => some d
  | none => b
theorem aget_kf {l m : List (Int × List Int)} {ks : List Int} (h : ks.Perm (l.map (·.1))) (n : Int) : aget (kput (fv l) ks m) n = orD (aget l n) (aget m n) := by
  rw [aget_kput]
  by_cases e : n ∈ ks
  · rw [if_pos e]
    have := (key_iff l n).mp (h.mem_iff.mp e)
    cases z : aget l n with
    | none => exact absurd z this
    | some d => unfold fv; rw [z]; rfl
  · rw [if_neg e]
    cases z : aget l n with
    | none => rfl
    | some d => exact absurd (h.mem_iff.mpr ((key_iff l n).mpr (by rw [z]; exact fun y => by cases y))) e
theorem aget_coms (l m : List (Int × List Int)) (n : Int) : aget (coms l m) n = orD (aget l n) (aget m n) := by rw [coms_k]; exact aget_kf (List.Perm.refl _) n
theorem aget_pgrp (l m : List (Int × List Int)) (n : Int) : aget (puts m (grp l)) n = orD (aget l n) (aget m n) := by rw [puts_k]; exact aget_kf (skeys_perm l) n
theorem can_none {d : DevS} (h : d.most = none) : can d = true := by unfold can; rw [h]
theorem dApp_ok : ∀ (bs : List Int) (d : DevS), d.most = none → dApp bs d = ({ d with done := d.done + bs.length, steps := d.steps ++ bs.map some }, true)
  | [], d, h => by
    show (d, true) = _
    simp
  | b :: bs, d, h => by
    have e : dByte (some b) d = ({ d with done := d.done + 1, steps := d.steps ++ [some b] }, true) := by unfold dByte pw; rw [if_pos (can_none h)]
    show (if (dByte (some b) d).2 = true then dApp bs (dByte (some b) d).1 else (d, false)) = _
    rw [e, if_pos rfl, dApp_ok bs { d with done := d.done + 1, steps := d.steps ++ [some b] } h]
    simp only [Prod.mk.injEq, DevS.mk.injEq, true_and, and_true, List.map_cons, List.append_assoc, List.singleton_append, List.length_cons]
    omega
theorem fold_some (bs l : List Int) : (bs.map some).foldl lstep l = l ++ bs := by
  induction bs generalizing l with
  | nil => simp
  | cons b bs ih => rw [List.map_cons, List.foldl_cons, ih]; unfold lstep; simp
theorem dSyncL_ok {d : DevS} (h : d.most = none) : dSyncL d = ({ d with done := d.done + 1, log := clog d, steps := [] }, true) := by
  unfold dSyncL pw; rw [if_pos (can_none h)]; rfl
theorem dSyncP_ok {d : DevS} (h : d.most = none) : dSyncP d = ({ d with done := d.done + 1, pages := puts d.pages d.writes, writes := [] }, true) := by
  unfold dSyncP pw; rw [if_pos (can_none h)]; rfl
theorem dByte_ok {d : DevS} {b : Option Int} (h : d.most = none) : dByte b d = ({ d with done := d.done + 1, steps := d.steps ++ [b] }, true) := by
  unfold dByte pw; rw [if_pos (can_none h)]
theorem pwrites_ok : ∀ (ws : List (Int × List Int)) (d : DevS), d.most = none → pwrites ws d = ({ d with done := d.done + ws.length, writes := d.writes ++ ws }, true)
  | [], d, h => by
    show (d, true) = _
    simp
  | q :: ws, d, h => by
    have e : dWrite q.1 q.2 d = ({ d with done := d.done + 1, writes := d.writes ++ [(q.1, q.2)] }, true) := by unfold dWrite pw; rw [if_pos (can_none h)]
    show (if (dWrite q.1 q.2 d).2 = true then pwrites ws (dWrite q.1 q.2 d).1 else (d, false)) = _
    rw [e, if_pos rfl, pwrites_ok ws { d with done := d.done + 1, writes := d.writes ++ [(q.1, q.2)] } h]
    simp only [Prod.mk.injEq, DevS.mk.injEq, true_and, and_true, List.append_assoc, List.singleton_append, List.length_cons]
    omega
/-- a pager between calls: k bounds the pages since the last checkpoint, i the calls, gs the log's groups -/
structure PSt (k i : Nat) (s : PgS) (gs : List (List (Int × List Int))) : Prop where
  mo : s.dev.most = none
  w : s.dev.writes = []
  st : s.dev.steps = []
  lg : s.dev.log = gs.flatMap wg
  gd : ∀ g ∈ gs, Good g
  cv : ∀ n, aget s.com n = aget (gs.foldl puts []) n
  cz : Zc s.com
  pz : Zc s.dev.pages
  dz : ∀ q ∈ s.dir, q.2.length = 256 ∧ 0 ≤ q.1 ∧ q.1 < 256 ^ 4
  n1 : (gs.map List.length).sum + s.dir.length ≤ k
  n2 : s.com.length ≤ (gs.map List.length).sum
  n3 : s.dev.pages.length ≤ 64 * i
  n4 : gs.length ≤ i
theorem PSt.le {k k' i i' : Nat} {s : PgS} {gs : List (List (Int × List Int))} (h : PSt k i s gs) (hk : k ≤ k') (hi : i ≤ i') : PSt k' i' s gs :=
  ⟨h.mo, h.w, h.st, h.lg, h.gd, h.cv, h.cz, h.pz, h.dz, by have := h.n1; omega, h.n2, by have := h.n3; omega, by have := h.n4; omega⟩
theorem log_len : ∀ {gs : List (List (Int × List Int))}, (∀ g ∈ gs, Good g) → (gs.flatMap wg).length ≤ 15604 * gs.length
  | [], _ => Nat.le_refl _
  | g :: gs, h => by
    have h1 := log_len (gs := gs) fun x hx => h x (List.mem_cons_of_mem _ hx)
    have h2 := h g (by simp)
    have h3 := h2.n
    rw [List.flatMap_cons, List.length_append, wg_len h2, List.length_cons]
    omega
theorem PSt.pgz {k i : Nat} {s : PgS} {gs : List (List (Int × List Int))} (h : PSt k i s gs) (hk : k ≤ 60) (hi : i ≤ 60) : PgZ s := by
  have l := log_len h.gd
  have := h.n1; have := h.n2; have := h.n3; have := h.n4
  exact ⟨by rw [h.w]; exact Nat.zero_le _, by rw [h.w]; show _ + 0 ≤ _; omega, by rw [h.lg, h.st]; show _ + 0 ≤ _; omega, fun q hq => Nat.le_of_eq (h.pz q hq), by rw [h.w]; exact fun q hq => (by cases hq), by omega, by omega, h.cz, h.dz⟩
theorem PSt.z {k i : Nat} {s : PgS} {gs : List (List (Int × List Int))} (h : PSt k i s gs) (n : Int) : (gpg s n).length = 256 := by
  unfold gpg
  cases e1 : aget s.dir n with
  | some d => exact (h.dz _ (aget_mem' e1)).1
  | none =>
    cases e2 : aget s.com n with
    | some d => exact h.cz _ (aget_mem' e2)
    | none =>
      show (cpg s.dev n).length = 256
      unfold cpg; rw [h.w]
      show (dpg s.dev n).length = 256
      unfold dpg
      cases e3 : aget s.dev.pages n with
      | some d => exact h.pz _ (aget_mem' e3)
      | none => exact zeros_len
/-- what stands without the dirty ones -/
def bv (s : PgS) : Int → List Int := gpg { s with dir := [] }
theorem PSt.nod {k i : Nat} {s : PgS} {gs : List (List (Int × List Int))} (h : PSt k i s gs) : PSt k i { s with dir := [] } gs :=
  ⟨h.mo, h.w, h.st, h.lg, h.gd, h.cv, h.cz, h.pz, fun q hq => (by cases hq), by have := h.n1; show _ + 0 ≤ k; omega, h.n2, h.n3, h.n4⟩
theorem PSt.put {k i : Nat} {s : PgS} {gs : List (List (Int × List Int))} {n : Int} {ds : List Int} (h : PSt k i s gs) (hn : 0 ≤ n ∧ n < 256 ^ 4) (hl : ds.length = 256) : PSt (k + 1) i (pwr n ds s) gs := by
  refine ⟨h.mo, h.w, h.st, h.lg, h.gd, h.cv, h.cz, h.pz, fun q hq => ?_, ?_, h.n2, h.n3, h.n4⟩
  · rcases aput_mem (show q ∈ aput s.dir n ds from hq) with hq | hq
    · exact h.dz q hq
    · rw [hq]; exact ⟨hl, hn⟩
  · have := pwr_len s n ds; have := h.n1; omega
theorem PSt.set {k i : Nat} {s : PgS} {gs : List (List (Int × List Int))} {f : Nat} {x : Int} (h : PSt k i s gs) (hf : f ≤ 7) : PSt (k + 1) i (setf f x s) gs :=
  h.put ⟨by decide, by decide⟩ (by rw [spl_len (by rw [h.z]; omega)]; exact h.z 0)
theorem PSt.cn {k i : Nat} {s : PgS} {gs : List (List (Int × List Int))} (h : PSt k i s gs) : PSt (k + 1) i (cnth s) gs := by
  unfold cnth; split
  · exact h.set (by decide)
  · exact h.le (by omega) (Nat.le_refl _)
theorem gpg_dir {s t : PgS} (h1 : s.dev = t.dev) (h2 : s.com = t.com) : bv s = bv t := by unfold bv; rw [h1, h2]
theorem bv_at {k i : Nat} {s : PgS} {gs : List (List (Int × List Int))} (h : PSt k i s gs) (n : Int) : bv s n = (orD (aget s.com n) (aget s.dev.pages n)).getD zeros := by
  unfold bv gpg
  show (match aget s.com n with | some d => d | none => cpg s.dev n) = _
  cases e : aget s.com n with
  | some d => rfl
  | none =>
    show cpg s.dev n = _
    unfold cpg; rw [h.w]; rfl
theorem gpg_at {k i : Nat} {s : PgS} {gs : List (List (Int × List Int))} (h : PSt k i s gs) (n : Int) : gpg s n = (orD (aget s.dir n) (orD (aget s.com n) (aget s.dev.pages n))).getD zeros := by
  have b := bv_at h n
  unfold bv gpg at b
  unfold gpg
  cases e : aget s.dir n with
  | some d => rfl
  | none => exact b
theorem sum_snoc (l : List Nat) (x : Nat) : (l ++ [x]).sum = l.sum + x := by simp
theorem orD_none (b : Option (List Int)) : orD none b = b := rfl
theorem orD_as (a b e : Option (List Int)) : orD (orD a b) e = orD a (orD b e) := by cases a <;> rfl
theorem aget_nil (n : Int) : aget [] n = none := rfl
/-- a commit -/
theorem PSt.com' {k i : Nat} {s : PgS} {gs : List (List (Int × List Int))} (h : PSt k i s gs) (hk : k ≤ 60) (hi : i ≤ 60) : ∃ s' gs', pcommit s = (s', true) ∧ PSt k (i + 1) s' gs' ∧ s'.dir = [] ∧ gpg s' = gpg s ∧ (gs'.length = gs.length ∨ gs'.length = gs.length + 1) := by
  have n1 := h.n1; have n2 := h.n2; have n3 := h.n3; have n4 := h.n4
  by_cases e : s.dir.length = 0
  · exact ⟨s, gs, by unfold pcommit; rw [if_pos e], h.le (Nat.le_refl _) (by omega), List.eq_nil_of_length_eq_zero e, rfl, .inl rfl⟩
  · have c1 : (andD (dApp (wg (grp s.dir)) s.dev) dSyncL) = ({ s.dev with done := s.dev.done + (wg (grp s.dir)).length + 1, log := s.dev.log ++ wg (grp s.dir), steps := [] }, true) := by
      rw [dApp_ok _ _ h.mo, andD_yes rfl, dSyncL_ok (by exact h.mo)]
      unfold clog
      show (({ pages := s.dev.pages, writes := s.dev.writes, log := (s.dev.steps ++ (wg (grp s.dir)).map some).foldl lstep s.dev.log, steps := [], done := _, most := _ } : DevS), true) = _
      rw [h.st, List.nil_append, fold_some]
    have gd : Good (grp s.dir) := (h.pgz hk hi).good.resolve_right (by omega)
    have lgr : (grp s.dir).length = s.dir.length := by unfold grp; rw [List.length_map, skeys_len]
    have P' : PSt k (i + 1) { dev := { s.dev with done := s.dev.done + (wg (grp s.dir)).length + 1, log := s.dev.log ++ wg (grp s.dir), steps := [] }, com := coms s.dir s.com, dir := [] } (gs ++ [grp s.dir]) := by
      refine ⟨h.mo, h.w, rfl, ?_, fun g hg => ?_, fun n => ?_, ?_, h.pz, fun q hq => (by cases hq), ?_, ?_, ?_, ?_⟩
      · show s.dev.log ++ wg (grp s.dir) = _
        rw [h.lg, List.flatMap_append]; simp
      · rcases List.mem_append.mp hg with hg | hg
        · exact h.gd g hg
        · rw [List.mem_singleton.mp hg]; exact gd
      · show aget (coms s.dir s.com) n = _
        rw [aget_coms, List.foldl_append, List.foldl_cons, List.foldl_nil, aget_pgrp, h.cv]
      · show Zc (coms s.dir s.com)
        rw [coms_k]
        exact kput_zc h.cz fun n hn => fv_z (fun q hq => (h.dz q hq).1) hn
      · rw [List.map_append, List.map_cons, List.map_nil, sum_snoc, lgr]; show _ + 0 ≤ k; omega
      · show (coms s.dir s.com).length ≤ _
        rw [List.map_append, List.map_cons, List.map_nil, sum_snoc, lgr, coms_k]
        have := kput_len (fv s.dir) (s.dir.map (·.1)) s.com
        rw [List.length_map] at this
        omega
      · show s.dev.pages.length ≤ _; omega
      · rw [List.length_append, List.length_singleton]; omega
    refine ⟨_, gs ++ [grp s.dir], ?_, P', rfl, ?_, .inr (by simp)⟩
    · unfold pcommit; rw [if_neg e, c1]; rfl
    · funext n
      rw [gpg_at P', gpg_at h]
      show (orD (aget [] n) (orD (aget (coms s.dir s.com) n) (aget s.dev.pages n))).getD zeros = _
      rw [aget_nil, orD_none, aget_coms, orD_as]
theorem andD_mk (d : DevS) (f : DevS → DevS × Bool) : andD (d, true) f = f d := if_pos rfl
/-- a checkpoint -/
theorem PSt.ck {k i : Nat} {s : PgS} {gs : List (List (Int × List Int))} (h : PSt k i s gs) (hk : k ≤ 60) : ∃ s', pckpt s = (s', true) ∧ PSt k (i + 1) s' [] ∧ s'.dir = s.dir ∧ gpg s' = gpg s ∧ bv s' = bv s := by
  have n1 := h.n1; have n2 := h.n2; have n3 := h.n3; have n4 := h.n4
  obtain ⟨dn, c1⟩ : ∃ dn, andD (andD (andD (pwrites (grp s.com) s.dev) dSyncP) (dByte none)) dSyncL = ({ pages := puts s.dev.pages (grp s.com), writes := [], log := [], steps := [], done := dn, most := none }, true) := by
    rw [pwrites_ok _ _ h.mo, andD_mk, dSyncP_ok (by exact h.mo), andD_mk, dByte_ok (by exact h.mo), andD_mk, dSyncL_ok (by exact h.mo)]
    unfold clog
    refine ⟨s.dev.done + (grp s.com).length + 1 + 1 + 1, ?_⟩
    simp [h.w, h.st, h.mo, lstep]
  have lgr : (grp s.com).length = s.com.length := by unfold grp; rw [List.length_map, skeys_len]
  have P' : PSt k (i + 1) { dev := { pages := puts s.dev.pages (grp s.com), writes := [], log := [], steps := [], done := dn, most := none }, com := [], dir := s.dir } [] := by
    refine ⟨rfl, rfl, rfl, rfl, fun g hg => (by cases hg), fun n => rfl, fun q hq => (by cases hq), ?_, h.dz, ?_, Nat.zero_le _, ?_, Nat.zero_le _⟩
    · show Zc (puts s.dev.pages (grp s.com))
      rw [puts_k]
      exact kput_zc h.pz fun n hn => fv_z h.cz ((skeys_perm _).mem_iff.mp hn)
    · show 0 + s.dir.length ≤ k; omega
    · show (puts s.dev.pages (grp s.com)).length ≤ 64 * (i + 1)
      have := puts_len (grp s.com) s.dev.pages
      unfold puts; omega
  refine ⟨_, ?_, P', rfl, ?_, ?_⟩
  · unfold pckpt; rw [c1]; rfl
  · funext n
    rw [gpg_at P', gpg_at h]
    show (orD (aget s.dir n) (orD (aget [] n) (aget (puts s.dev.pages (grp s.com)) n))).getD zeros = _
    rw [aget_nil, orD_none, aget_pgrp]
  · funext n
    rw [bv_at P', bv_at h]
    show (orD (aget [] n) (aget (puts s.dev.pages (grp s.com)) n)).getD zeros = _
    rw [aget_nil, orD_none, aget_pgrp]
theorem puts_zc : ∀ {g m : List (Int × List Int)}, Zc m → Zc g → Zc (puts m g)
  | [], _, h, _ => h
  | q :: g, m, h, hw => puts_zc (g := g) (aput_zc h (hw q (by simp))) fun r hr => hw r (List.mem_cons_of_mem _ hr)
theorem gs_zc : ∀ {gs : List (List (Int × List Int))} {m : List (Int × List Int)}, Zc m → (∀ g ∈ gs, Good g) → Zc (gs.foldl puts m)
  | [], _, h, _ => h
  | g :: gs, m, h, hg => gs_zc (gs := gs) (puts_zc h fun q hq => ((hg g (by simp)).q q hq).2.2) fun x hx => hg x (List.mem_cons_of_mem _ hx)
theorem gs_len : ∀ (gs : List (List (Int × List Int))) (m : List (Int × List Int)), (gs.foldl puts m).length ≤ m.length + (gs.map List.length).sum
  | [], _ => Nat.le_refl _
  | g :: gs, m => by
    have h1 := gs_len gs (puts m g)
    have h2 := puts_len g m
    unfold puts at h1 h2
    rw [List.foldl_cons, List.map_cons, List.sum_cons]
    unfold puts
    omega
/-- a crash, and the pager anew -/
theorem PSt.init {k i : Nat} {s : PgS} {gs : List (List (Int × List Int))} (h : PSt k i s gs) (hk : k ≤ 60) (hi : i ≤ 60) : clog (dCrash [] 0 s.dev) = gs.flatMap wg ∧ CkZ (pini0 gs (dCrash [] 0 s.dev)) ∧ ∃ s1, pini1 gs (dCrash [] 0 s.dev) = (s1, true) ∧ PSt k (i + 1) s1 [] ∧ s1.dir = [] ∧ gpg s1 = bv s := by
  have n1 := h.n1; have n2 := h.n2; have n3 := h.n3; have n4 := h.n4
  have dl : (dCrash [] 0 s.dev).log = gs.flatMap wg := h.lg
  have P0 : PSt k i (pini0 gs (dCrash [] 0 s.dev)) gs := by
    refine ⟨rfl, rfl, rfl, dl, h.gd, fun n => rfl, gs_zc (fun q hq => (by cases hq)) h.gd, ?_, fun q hq => (by cases hq), by show _ + 0 ≤ k; omega, ?_, ?_, n4⟩
    · show Zc ((s.dev.writes.zip []).foldl dFate s.dev.pages)
      rw [List.zip_nil_right]; exact h.pz
    · have := gs_len gs []
      show (gs.foldl puts []).length ≤ _
      simpa using this
    · show ((s.dev.writes.zip ([] : List Int)).foldl dFate s.dev.pages).length ≤ _
      rw [List.zip_nil_right]; exact n3
  have b0 : gpg (pini0 gs (dCrash [] 0 s.dev)) = bv s := by
    funext n
    rw [gpg_at P0, bv_at h]
    show (orD (aget [] n) (orD (aget (gs.foldl puts []) n) (aget ((s.dev.writes.zip []).foldl dFate s.dev.pages) n))).getD zeros = _
    rw [aget_nil, orD_none, List.zip_nil_right, h.cv]; rfl
  have cl : clog (dCrash [] 0 s.dev) = gs.flatMap wg := dl
  refine ⟨cl, (P0.pgz hk hi).ck, ?_⟩
  by_cases e : 0 < (clog (dCrash [] 0 s.dev)).length
  · obtain ⟨s', e1, P', d', g', b'⟩ := P0.ck hk
    exact ⟨s', by unfold pini1; rw [if_pos e, e1], P', d', g'.trans b0⟩
  · have eg : gs = [] := by
      cases hg : gs with
      | nil => rfl
      | cons g gs' =>
        exfalso
        apply e
        rw [cl, hg, List.flatMap_cons, List.length_append, wg_len (h.gd g (by rw [hg]; simp))]; omega
    refine ⟨pini0 gs (dCrash [] 0 s.dev), by unfold pini1; rw [if_neg e], ?_, rfl, b0⟩
    have := P0.le (Nat.le_refl k) (Nat.le_succ i)
    rw [eg] at this ⊢
    exact this
/-! ### the law's own model (k19) -/
structure MS where
  disk : List (Int × List Int)
  log : List Int
  since : List (Int × List Int)
  dirty : List (Int × List Int)
  steps : Int
def MdG (m b1 b2 b3 : Addr) : Addr → Prop := fun b => b = m ∨ b = b1 ∨ b = b2 ∨ b = b3
structure MdA (O : Addr → Prop) (H : Hp) (m b1 b2 b3 l : Addr) (k1 k2 k3 : List (Key × V)) (x : MS) : Prop where
  o : H m = some (.dK (RD_model (.ref b1) (.ref l) (.ref b2) (.ref b3) (.int x.steps)))
  h1 : H b1 = some (.dK k1)
  p1 : Paired (RPg H O (MdG m b1 b2 b3)) k1 x.disk
  h2 : H b2 = some (.dK k2)
  p2 : Paired (RPg H O (MdG m b1 b2 b3)) k2 x.since
  h3 : H b3 = some (.dK k3)
  p3 : Paired (RPg H O (MdG m b1 b2 b3)) k3 x.dirty
  lg : Im H O (MdG m b1 b2 b3) l x.log
  n12 : b1 ≠ b2
  n13 : b1 ≠ b3
  n23 : b2 ≠ b3
  m1 : m ≠ b1
  m2 : m ≠ b2
  m3 : m ≠ b3
  ow : ∀ b, MdG m b1 b2 b3 b → O b
def MdAt (H : Hp) (m : Addr) (O : Addr → Prop) (x : MS) : Prop := (∃ b1 b2 b3 l k1 k2 k3, MdA O H m b1 b2 b3 l k1 k2 k3 x) ∧ ∀ b, O b → ∃ o, H b = some o
section
variable {F O O0 O' : Addr → Prop} {H H' : Hp} {m b1 b2 b3 l b : Addr} {k1 k2 k3 : List (Key × V)} {x : MS}
theorem MdA.trk (D : MdA O H m b1 b2 b3 l k1 k2 k3 x) (g : MdG m b1 b2 b3 b) : ∃ o, H b = some o := by
  rcases g with rfl | rfl | rfl | rfl
  · exact ⟨_, D.o⟩
  · exact ⟨_, D.h1⟩
  · exact ⟨_, D.h2⟩
  · exact ⟨_, D.h3⟩
theorem MdA.fresh (D : MdA O H m b1 b2 b3 l k1 k2 k3 x) (hb : H b = none) : ¬ MdG m b1 b2 b3 b := fun z => by
  obtain ⟨o, ho⟩ := D.trk z
  rw [hb] at ho; cases ho
theorem MdA.off (k : Kp F H H') (D : MdA O H m b1 b2 b3 l k1 k2 k3 x) (n : ∀ b, F b → ¬ O b) : MdA O H' m b1 b2 b3 l k1 k2 k3 x := by
  have g : ∀ b, MdG m b1 b2 b3 b → ¬ F b := fun b z f => n b f (D.ow b z)
  have im : ∀ a ds, Im H O (MdG m b1 b2 b3) a ds → Im H' O (MdG m b1 b2 b3) a ds := fun a ds i => ⟨k.get i.1 fun z => n _ z i.2.1, i.2⟩
  exact ⟨k.get D.o (g _ (.inl rfl)), k.get D.h1 (g _ (.inr (.inl rfl))), D.p1.mono fun _ _ r => r.im im, k.get D.h2 (g _ (.inr (.inr (.inl rfl)))), D.p2.mono fun _ _ r => r.im im, k.get D.h3 (g _ (.inr (.inr (.inr rfl)))), D.p3.mono fun _ _ r => r.im im, im _ _ D.lg, D.n12, D.n13, D.n23, D.m1, D.m2, D.m3, D.ow⟩
theorem MdA.same (k : Kp F0 H H') (D : MdA O H m b1 b2 b3 l k1 k2 k3 x) : MdA O H' m b1 b2 b3 l k1 k2 k3 x := D.off k fun _ z => z.elim
theorem MdA.own (D : MdA O H m b1 b2 b3 l k1 k2 k3 x) (n : ∀ b, O b → O' b) : MdA O' H m b1 b2 b3 l k1 k2 k3 x := by
  have im : ∀ a ds, Im H O (MdG m b1 b2 b3) a ds → Im H O' (MdG m b1 b2 b3) a ds := fun a ds i => ⟨i.1, n _ i.2.1, i.2.2⟩
  exact ⟨D.o, D.h1, D.p1.mono fun _ _ r => r.im im, D.h2, D.p2.mono fun _ _ r => r.im im, D.h3, D.p3.mono fun _ _ r => r.im im, im _ _ D.lg, D.n12, D.n13, D.n23, D.m1, D.m2, D.m3, fun b z => n _ (D.ow b z)⟩
theorem MdAt.opn (h : MdAt H m O0 x) : ∃ (O : Addr → Prop) (b1 b2 b3 l : Addr) (k1 k2 k3 : List (Key × V)), O = (fun x => O0 x ∨ H x = none) ∧ MdA O H m b1 b2 b3 l k1 k2 k3 x ∧ ∀ b, MdG m b1 b2 b3 b → O0 b := by
  obtain ⟨⟨b1, b2, b3, l, k1, k2, k3, D⟩, _⟩ := h
  exact ⟨_, b1, b2, b3, l, k1, k2, k3, rfl, D.own fun _ z => .inl z, D.ow⟩
theorem MdA.clo (D : MdA O H' m b1 b2 b3 l k1 k2 k3 x) (e : O = fun x => O0 x ∨ H x = none) : MdAt H' m (nO O0 H H') x := by
  subst e
  have im : ∀ a ds, Im H' (fun x => O0 x ∨ H x = none) (MdG m b1 b2 b3) a ds → Im H' (nO O0 H H') (MdG m b1 b2 b3) a ds := fun a ds i => ⟨i.1, ⟨i.2.1, _, i.1⟩, i.2.2⟩
  exact ⟨⟨b1, b2, b3, l, k1, k2, k3, D.o, D.h1, D.p1.mono fun _ _ r => r.im im, D.h2, D.p2.mono fun _ _ r => r.im im, D.h3, D.p3.mono fun _ _ r => r.im im, im _ _ D.lg, D.n12, D.n13, D.n23, D.m1, D.m2, D.m3, fun b z => ⟨D.ow b z, D.trk z⟩⟩, fun b z => z.2⟩
theorem MdAt.off (k : Kp F H H') (h : MdAt H m O x) (n : ∀ b, F b → ¬ O b) : MdAt H' m O x := by
  obtain ⟨⟨b1, b2, b3, l, k1, k2, k3, D⟩, t⟩ := h
  refine ⟨⟨b1, b2, b3, l, k1, k2, k3, D.off k n⟩, fun b z => ?_⟩
  obtain ⟨o, ho⟩ := t b z
  exact ⟨o, k.get ho fun y => n b y z⟩
theorem MdAt.fresh (h : MdAt H m O x) (hb : H b = none) : ¬ O b := fun z => by
  obtain ⟨o, ho⟩ := h.2 b z
  rw [hb] at ho; cases ho
/-- what the own places' changes leave -/
theorem MdA.imG (k : Kp F H H') (n : ∀ b, F b → MdG m b1 b2 b3 b) : ∀ a ds, Im H O (MdG m b1 b2 b3) a ds → Im H' O (MdG m b1 b2 b3) a ds := fun _ _ i => i.kp k n
/-- a page put into one of the three dicts -/
theorem MdA.put3 {a : Addr} {n : Int} {ds : List Int} (D : MdA O H m b1 b2 b3 l k1 k2 k3 x) (i : Im H O (MdG m b1 b2 b3) a ds) (k : Kp (F1 b3) H H') (h : H' b3 = some (.dK (putK k3 (.inl n) (.ref a)))) : MdA O H' m b1 b2 b3 l k1 k2 (putK k3 (.inl n) (.ref a)) { x with dirty := aput x.dirty n ds } := by
  have im := MdA.imG (O := O) (m := m) (b1 := b1) (b2 := b2) (b3 := b3) k fun b z => .inr (.inr (.inr z))
  exact ⟨k.get D.o D.m3, k.get D.h1 D.n13, D.p1.mono fun _ _ r => r.im im, k.get D.h2 D.n23, D.p2.mono fun _ _ r => r.im im, h, put_pr RPg.key ⟨rfl, a, rfl, im _ _ i⟩ (D.p3.mono fun _ _ r => r.im im), im _ _ D.lg, D.n12, D.n13, D.n23, D.m1, D.m2, D.m3, D.ow⟩
theorem MdA.put2 {a : Addr} {n : Int} {ds : List Int} (D : MdA O H m b1 b2 b3 l k1 k2 k3 x) (i : Im H O (MdG m b1 b2 b3) a ds) (k : Kp (F1 b2) H H') (h : H' b2 = some (.dK (putK k2 (.inl n) (.ref a)))) : MdA O H' m b1 b2 b3 l k1 (putK k2 (.inl n) (.ref a)) k3 { x with since := aput x.since n ds } := by
  have im := MdA.imG (O := O) (m := m) (b1 := b1) (b2 := b2) (b3 := b3) k fun b z => .inr (.inr (.inl z))
  exact ⟨k.get D.o D.m2, k.get D.h1 D.n12, D.p1.mono fun _ _ r => r.im im, h, put_pr RPg.key ⟨rfl, a, rfl, im _ _ i⟩ (D.p2.mono fun _ _ r => r.im im), k.get D.h3 D.n23.symm, D.p3.mono fun _ _ r => r.im im, im _ _ D.lg, D.n12, D.n13, D.n23, D.m1, D.m2, D.m3, D.ow⟩
theorem MdA.put1 {a : Addr} {n : Int} {ds : List Int} (D : MdA O H m b1 b2 b3 l k1 k2 k3 x) (i : Im H O (MdG m b1 b2 b3) a ds) (k : Kp (F1 b1) H H') (h : H' b1 = some (.dK (putK k1 (.inl n) (.ref a)))) : MdA O H' m b1 b2 b3 l (putK k1 (.inl n) (.ref a)) k2 k3 { x with disk := aput x.disk n ds } := by
  have im := MdA.imG (O := O) (m := m) (b1 := b1) (b2 := b2) (b3 := b3) k fun b z => .inr (.inl z)
  exact ⟨k.get D.o D.m1, h, put_pr RPg.key ⟨rfl, a, rfl, im _ _ i⟩ (D.p1.mono fun _ _ r => r.im im), k.get D.h2 D.n12.symm, D.p2.mono fun _ _ r => r.im im, k.get D.h3 D.n13.symm, D.p3.mono fun _ _ r => r.im im, im _ _ D.lg, D.n12, D.n13, D.n23, D.m1, D.m2, D.m3, D.ow⟩
/-- the number of steps, the log -/
theorem MdA.num {n : Int} (D : MdA O H m b1 b2 b3 l k1 k2 k3 x) (k : Kp (F1 m) H H') (h : H' m = some (.dK (RD_model (.ref b1) (.ref l) (.ref b2) (.ref b3) (.int n)))) : MdA O H' m b1 b2 b3 l k1 k2 k3 { x with steps := n } := by
  have im := MdA.imG (O := O) (m := m) (b1 := b1) (b2 := b2) (b3 := b3) k fun b z => .inl z
  exact ⟨h, k.get D.h1 D.m1.symm, D.p1.mono fun _ _ r => r.im im, k.get D.h2 D.m2.symm, D.p2.mono fun _ _ r => r.im im, k.get D.h3 D.m3.symm, D.p3.mono fun _ _ r => r.im im, im _ _ D.lg, D.n12, D.n13, D.n23, D.m1, D.m2, D.m3, D.ow⟩
theorem MdA.newlog {l' : Addr} {ds : List Int} (D : MdA O H m b1 b2 b3 l k1 k2 k3 x) (i : Im H O (MdG m b1 b2 b3) l' ds) (k : Kp (F1 m) H H') (h : H' m = some (.dK (RD_model (.ref b1) (.ref l') (.ref b2) (.ref b3) (.int x.steps)))) : MdA O H' m b1 b2 b3 l' k1 k2 k3 { x with log := ds } := by
  have im := MdA.imG (O := O) (m := m) (b1 := b1) (b2 := b2) (b3 := b3) k fun b z => .inl z
  exact ⟨h, k.get D.h1 D.m1.symm, D.p1.mono fun _ _ r => r.im im, k.get D.h2 D.m2.symm, D.p2.mono fun _ _ r => r.im im, k.get D.h3 D.m3.symm, D.p3.mono fun _ _ r => r.im im, im _ _ i, D.n12, D.n13, D.n23, D.m1, D.m2, D.m3, D.ow⟩
/-- new dirty ones, new ones since -/
theorem MdA.new3 {e : Addr} (D : MdA O H m b1 b2 b3 l k1 k2 k3 x) (he : H e = none) (k : Kp (F1 m) H H') (h : H' m = some (.dK (RD_model (.ref b1) (.ref l) (.ref b2) (.ref e) (.int x.steps)))) (e0 : H' e = some (.dK [])) (oe : O e) : MdA O H' m b1 b2 e l k1 k2 [] { x with dirty := [] } := by
  have nb := D.fresh he
  have im : ∀ a ds, Im H O (MdG m b1 b2 b3) a ds → Im H' O (MdG m b1 b2 e) a ds := fun a ds i => ⟨k.get i.1 fun z => i.2.2 (.inl z), i.2.1, by
    rintro (z | z | z | z)
    · exact i.2.2 (.inl z)
    · exact i.2.2 (.inr (.inl z))
    · exact i.2.2 (.inr (.inr (.inl z)))
    · exact ne_of_none i.1 he z⟩
  exact ⟨h, k.get D.h1 D.m1.symm, D.p1.mono fun _ _ r => r.im im, k.get D.h2 D.m2.symm, D.p2.mono fun _ _ r => r.im im, e0, .nil, im _ _ D.lg, D.n12, fun z => nb (.inr (.inl z.symm)), fun z => nb (.inr (.inr (.inl z.symm))), D.m1, D.m2, fun z => nb (.inl z.symm), by
    rintro b (z | z | z | z)
    · exact D.ow b (.inl z)
    · exact D.ow b (.inr (.inl z))
    · exact D.ow b (.inr (.inr (.inl z)))
    · rw [z]; exact oe⟩
theorem MdA.new2 {e : Addr} (D : MdA O H m b1 b2 b3 l k1 k2 k3 x) (he : H e = none) (k : Kp (F1 m) H H') (h : H' m = some (.dK (RD_model (.ref b1) (.ref l) (.ref e) (.ref b3) (.int x.steps)))) (e0 : H' e = some (.dK [])) (oe : O e) : MdA O H' m b1 e b3 l k1 [] k3 { x with since := [] } := by
  have nb := D.fresh he
  have im : ∀ a ds, Im H O (MdG m b1 b2 b3) a ds → Im H' O (MdG m b1 e b3) a ds := fun a ds i => ⟨k.get i.1 fun z => i.2.2 (.inl z), i.2.1, by
    rintro (z | z | z | z)
    · exact i.2.2 (.inl z)
    · exact i.2.2 (.inr (.inl z))
    · exact ne_of_none i.1 he z
    · exact i.2.2 (.inr (.inr (.inr z)))⟩
  exact ⟨h, k.get D.h1 D.m1.symm, D.p1.mono fun _ _ r => r.im im, e0, .nil, k.get D.h3 D.m3.symm, D.p3.mono fun _ _ r => r.im im, im _ _ D.lg, fun z => nb (.inr (.inl z.symm)), D.n13, fun z => nb (.inr (.inr (.inr z))), D.m1, fun z => nb (.inl z.symm), D.m3, by
    rintro b (z | z | z | z)
    · exact D.ow b (.inl z)
    · exact D.ow b (.inr (.inl z))
    · rw [z]; exact oe
    · exact D.ow b (.inr (.inr (.inr z)))⟩
end
section
variable {σ : L2.St} {H : Hp} {Q : VK} {tk tv : TE} {r : List (TE × TE)} {R : List (V × V) → Hp → Prop}
theorem x_pc (h : tk σ H fun x H1 => tv σ H1 fun y H2 => tPairs r σ H2 fun ps H3 => R ((x, y) :: ps) H3) : tPairs ((tk, tv) :: r) σ H R := h
theorem x_pn (h : R [] H) : tPairs [] σ H R := h
end
def mpage (x : MS) (n : Int) : List Int := (orD (aget x.dirty n) (orD (aget x.since n) (aget x.disk n))).getD zeros
def mset (k : Nat) (v : Int) (x : MS) : MS := { x with dirty := aput x.dirty 0 (spl (mpage x 0) k v) }
def mfld (x : MS) (k : Nat) : Int := rn (((mpage x 0).drop (4 * k)).take 4)
def mcnt (x : MS) : MS := if mfld x 6 = 0 then mset 6 1 x else x
theorem rn4 {l : List Int} {a : Nat} (h : a + 4 ≤ l.length) : rn ((l.drop a).take 4) = ((l.getD a 0 * 256 + l.getD (a + 1) 0) * 256 + l.getD (a + 2) 0) * 256 + l.getD (a + 3) 0 := by
  have e : (l.drop a).take 4 = [l.getD a 0, l.getD (a + 1) 0, l.getD (a + 2) 0, l.getD (a + 3) 0] := by
    apply List.ext_getElem?
    intro i
    by_cases hi : i < 4
    · rw [List.getElem?_take_of_lt hi, List.getElem?_drop, List.getElem?_eq_getElem (by omega)]
      rcases (by omega : i = 0 ∨ i = 1 ∨ i = 2 ∨ i = 3) with rfl | rfl | rfl | rfl <;> simp [List.getD_eq_getElem?_getD, List.getElem?_eq_getElem (show a < l.length by omega), List.getElem?_eq_getElem (show a + 1 < l.length by omega), List.getElem?_eq_getElem (show a + 2 < l.length by omega), List.getElem?_eq_getElem (show a + 3 < l.length by omega)]
    · rw [List.getElem?_eq_none (by rw [List.length_take]; omega), List.getElem?_eq_none (by simp; omega)]
  rw [e]
  show ((((0 : Int) * 256 + _) * 256 + _) * 256 + _) * 256 + _ = _
  simp
section
variable {P : Program} {w : World} {K : PySem.W.Frag} {mg : Str → Option Value} {base : Heap} {c : Cl}
def sp__law_bytes : Sp := fun vs H Q _ => ∃ n : Int, vs = [.int n] ∧ ∀ p H', H p = none → Kp F0 H H' → H' p = some (.lst ((wn 4 n).map V.int)) → Q (.ref p) H'
theorem ok__law_bytes (T : Txt K mg c) : GF P w K mg base CX0 1 "_law_bytes" sp__law_bytes := by
  obtain ⟨f, fd, F, gm⟩ := T.f__law_bytes
  refine ⟨f, fd, ["_law_number_here"], F.ok sc__law_bytes ?_ (fun cdv A outer s H vs Q E hr h => ?_), gm, F.kp, (F.binds (ps := ["_law_number_here"]) fun _ _ _ _ _ _ us hl => match us, hl with | [_], _ => rfl)⟩
  · rintro vs H Q E ⟨_, rfl, _⟩
    rfl
  · obtain ⟨z, rfl, k⟩ := h
    refine ⟨_, (pss_one (ps_ret (pe_lc (own := [("_law_k", 1)]) (g := (gName 1)) (tt := tYes) rfl sc__law_bytes.nd (pi_range1 (by rfl) T.z_range (pa_cons pe_int pa_nil)) (blkOk_by (N := ["_law_number_here", "_law_k"]) (sc := defScope s__law_bytes) (by decide +kernel)) (fun _ _ _ _ _ => (pg_name (i := 1) sc__law_bytes.nd rfl (Or.inl rfl))) (fun _ _ _ _ _ => pts_nil) (fun _ _ _ _ _ => (pe_op o_and (pe_op op_shr (pv 0) (pe_op op_mul pe_int (pe_op op_sub pe_int (pv 1)))) pe_int))))), ?_⟩
    walk_at "cx"
    walk_at "rd"
    refine wlcP (ys := (wn 4 z).map V.int) Wk.rng (by rw [List.length_map, rgl_len, wn_len]; rfl) (by rw [rgl_len]; omega) (fun _ _ => trivial) (fun i x y H' R ex ey kp hR => ?_) (fun D H1 hD kp hDl => k D H1 hD kp hDl)
    obtain ⟨hi, rfl⟩ := rgl_at ex
    have hi' : i < 4 := hi
    rw [List.getElem?_map, wn_get hi'] at ey
    cases ey
    walk_at "rd"
    refine ⟨rfl, ?_⟩
    walk_at "rd"
    have e : 8 * ((3 : Int) - (0 + (i : Nat))) = ((8 * (4 - 1 - i) : Nat) : Int) := by omega
    have q := hR H' (Kp.refl _)
    rw [← pow_256] at q
    rw [e]
    exact q
def x0 : MS := ⟨[], [], [], [], 0⟩
def sp__law_new : Sp := fun vs H Q _ => vs = [] ∧ ∀ m H' O, MdAt H' m O x0 → Kp F0 H H' → (∀ b, O b → H b = none) → Q (.ref m) H'
theorem ok__law_new (T : Txt K mg c) : GF P w K mg base CX0 1 "_law_new" sp__law_new := by
  obtain ⟨f, fd, F, gm⟩ := T.f__law_new
  refine ⟨f, fd, [], F.ok sc__law_new ?_ (fun cdv A outer s H vs Q E hr h => ?_), gm, F.kp, (F.binds (ps := []) fun _ _ _ _ _ _ us hl => match us, hl with | [], _ => rfl)⟩
  · rintro vs H Q E ⟨rfl, _⟩
    rfl
  · obtain ⟨rfl, k⟩ := h
    refine ⟨_, (pss_one (ps_ret (pe_disp (pps_cons pe_str pe_dnewK (pps_cons pe_str (pe_lst pa_nil) (pps_cons pe_str pe_dnewK (pps_cons pe_str pe_dnewK (pps_cons pe_str pe_int pps_nil))))) (by rfl) (by rfl) (fun z => by cases z) (by decide)))), ?_⟩
    walk_at "cx"
    walk_at "rd"
    intro m hm
    refine x_pc ?_
    walk_at "rd"
    refine x_dnew fun b1 H1 h1 k1 e1 => ?_
    refine x_pc ?_
    walk_at "rd"
    refine x_newL fun l H2 h2 k2 e2 => ?_
    refine x_pc ?_
    walk_at "rd"
    refine x_dnew fun b2 H3 h3 k3 e3 => ?_
    refine x_pc ?_
    walk_at "rd"
    refine x_dnew fun b3 H4 h4 k4 e4 => ?_
    refine x_pc ?_
    walk_at "rd"
    refine x_pn ?_
    have km : Kp F0 H (upd H m (.dK [])) := Kp.new hm
    have m0 : (upd H m (.dK []) : Hp) m = some (.dK []) := upd_same
    have m1 := k1.get m0 id
    have m2 := k2.get m1 id
    have m3 := k3.get m2 id
    have m4 := k4.get m3 id
    have e14 := k4.get (k3.get (k2.get e1 id) id) id
    have e13 := k3.get (k2.get e1 id) id
    have e24 := k4.get (k3.get e2 id) id
    have e34 := k4.get e3 id
    have n1 : b1 ≠ m := (ne_of_none m0 h1).symm
    have n2 : l ≠ m := (ne_of_none m1 h2).symm
    have n3 : b2 ≠ m := (ne_of_none m2 h3).symm
    have n4 : b3 ≠ m := (ne_of_none m3 h4).symm
    have e12 := k2.get e1 id
    refine ⟨m4, RD_model (.ref b1) (.ref l) (.ref b2) (.ref b3) (.int 0), rfl, Nat.le_of_ble_eq_true rfl, ?_⟩
    rw [rm_model]
    have f1 := km.free h1 id
    have f2 := km.free (k1.free h2 id) id
    have f3 := km.free (k1.free (k2.free h3 id) id) id
    have f4 := km.free (k1.free (k2.free (k3.free h4 id) id) id) id
    refine k m _ (fun b => b = m ∨ b = b1 ∨ b = b2 ∨ b = b3 ∨ b = l) ⟨⟨b1, b2, b3, l, [], [], [], upd_same, by rw [upd_ne n1]; exact e14, .nil, by rw [upd_ne n3]; exact e34, .nil, by rw [upd_ne n4]; exact e4, .nil, ⟨by rw [upd_ne n2]; exact e24, .inr (.inr (.inr (.inr rfl))), ?_⟩, ne_of_none e12 h3, ne_of_none e13 h4, ne_of_none e3 h4, n1.symm, n3.symm, n4.symm, ?_⟩, ?_⟩ ?_ ?_
    · rintro (z | z | z | z)
      · exact n2 z
      · exact ne_of_none e1 h2 z.symm
      · exact ne_of_none e2 h3 z
      · exact ne_of_none (k3.get e2 id) h4 z
    · rintro b (z | z | z | z)
      · exact .inl z
      · exact .inr (.inl z)
      · exact .inr (.inr (.inl z))
      · exact .inr (.inr (.inr (.inl z)))
    · rintro b (rfl | rfl | rfl | rfl | rfl)
      · exact ⟨_, upd_same⟩
      · exact ⟨_, by rw [upd_ne n1]; exact e14⟩
      · exact ⟨_, by rw [upd_ne n3]; exact e34⟩
      · exact ⟨_, by rw [upd_ne n4]; exact e4⟩
      · exact ⟨_, by rw [upd_ne n2]; exact e24⟩
    · intro b o hb _
      rw [upd_ne (ne_of_none hb hm)]
      exact k4.get (k3.get (k2.get (k1.get (km.get hb id) id) id) id) id
    · rintro b (rfl | rfl | rfl | rfl | rfl)
      · exact hm
      · exact f1
      · exact f3
      · exact f4
      · exact f2
def sp__law_page : Sp := fun vs H Q _ => ∃ m O x n, vs = [.ref m, .int n] ∧ MdAt H m O x ∧ ∀ b H', H b = none → Kp F0 H H' → H' b = some (.lst ((mpage x n).map V.int)) → Q (.ref b) H'
theorem ok__law_page (T : Txt K mg c) : GF P w K mg base CX0 1 "_law_page" sp__law_page := by
  obtain ⟨f, fd, F, gm⟩ := T.f__law_page
  refine ⟨f, fd, ["_law_model", "_law_number_here"], F.ok sc__law_page ?_ (fun cdv A outer s H vs Q E hr h => ?_), gm, F.kp, (F.binds (ps := ["_law_model", "_law_number_here"]) fun _ _ _ _ _ _ us hl => match us, hl with | [_, _], _ => rfl)⟩
  · rintro vs H Q E ⟨_, _, _, _, rfl, _⟩
    rfl
  · obtain ⟨m, O, x, n, rfl, ⟨⟨b1, b2, b3, l, k1, k2, k3, D⟩, _⟩, k⟩ := h
    have ho := D.o
    refine ⟨_, (pss_cons (ps_for PassesOwn.never rfl (pi_listK rfl (pe_lst (pa_cons pe_str (pa_cons pe_str (pa_cons pe_str pa_nil))))) (pg_name (i := 2) sc__law_page.nd rfl (Or.inl rfl)) (pss_one (ps_if (pt_cmp (pc_din (hu_of hr) (pv 1) (pe_dget (hu_of hr) (pv 0) (pv 2) (fun _ _ => rfl)))) (pss_one (ps_ret (pe_callTy (r := rLstQ K) c_list (by rfl) T.z_list (by decide +kernel) (pa_cons (pe_dget (hu_of hr) (pe_dget (hu_of hr) (pv 0) (pv 2) (fun _ _ => rfl)) (pv 1) (fun _ _ => rfl)) pa_nil)))) pss_nil)))
      (pss_one (ps_ret (pe_op op_rep (pe_lst (pa_cons pe_int pa_nil)) pe_int)))), ?_⟩
    walk_at "cx"
    walk_at "rd"
    refine x_newL fun p H1 hp kp e1 => ?_
    have D1 := D.same kp
    have ho1 := D1.o
    have d1 := D1.h1
    have d2 := D1.h2
    have d3 := D1.h3
    walk_at "rd"
    refine wfor Wk.list (fun i σ H' => ∃ u, σ = [some (.ref m), some (.int n), u] ∧ H1 = H' ∧ (1 ≤ i → aget x.dirty n = none) ∧ (2 ≤ i → aget x.since n = none) ∧ (3 ≤ i → aget x.disk n = none))
      ⟨none, rfl, rfl, fun z => absurd z (by decide), fun z => absurd z (by decide), fun z => absurd z (by decide)⟩ (fun i σ H' ⟨_, _, e, _⟩ => by rw [← e]; exact SqL.of e1) ?_ ?_
    · rintro i y σ H2 ex ⟨u, rfl, rfl, q1, q2, q3⟩
      rcases i with _ | _ | _ | i
      · cases ex
        walk_at "rd"
        rcases get_pr RPg.key n D1.p3 with ⟨g1, g2⟩ | ⟨v, ds, g1, g2, _, a, rfl, im⟩
        · rw [g1]
          refine if_no ?_
          exact ⟨_, rfl, rfl, fun _ => g2, fun z => absurd z (by decide), fun z => absurd z (by decide)⟩
        · rw [g1]
          refine if_so ?_
          walk_at "rd"
          refine x_dgI (.inl d3) g1 ?_
          walk_at "rd"
          refine x_lstL (SqL.of im.1) fun b H3 hb kb eb => ?_
          exact k b H3 (kp.free hb id) (kp.trans kb fun _ z => z.elim) (by unfold mpage; rw [g2]; exact eb)
      · cases ex
        walk_at "rd"
        rcases get_pr RPg.key n D1.p2 with ⟨g1, g2⟩ | ⟨v, ds, g1, g2, _, a, rfl, im⟩
        · rw [g1]
          refine if_no ?_
          exact ⟨_, rfl, rfl, fun _ => q1 (by decide), fun _ => g2, fun z => absurd z (by decide)⟩
        · rw [g1]
          refine if_so ?_
          walk_at "rd"
          refine x_dgI (.inl d2) g1 ?_
          walk_at "rd"
          refine x_lstL (SqL.of im.1) fun b H3 hb kb eb => ?_
          exact k b H3 (kp.free hb id) (kp.trans kb fun _ z => z.elim) (by unfold mpage; rw [q1 (by decide), g2]; exact eb)
      · cases ex
        walk_at "rd"
        rcases get_pr RPg.key n D1.p1 with ⟨g1, g2⟩ | ⟨v, ds, g1, g2, _, a, rfl, im⟩
        · rw [g1]
          refine if_no ?_
          exact ⟨_, rfl, rfl, fun _ => q1 (by decide), fun _ => q2 (by decide), fun _ => g2⟩
        · rw [g1]
          refine if_so ?_
          walk_at "rd"
          refine x_dgI (.inl d1) g1 ?_
          walk_at "rd"
          refine x_lstL (SqL.of im.1) fun b H3 hb kb eb => ?_
          exact k b H3 (kp.free hb id) (kp.trans kb fun _ z => z.elim) (by unfold mpage; rw [q1 (by decide), q2 (by decide), g2]; exact eb)
      · simp at ex
    · rintro σ H2 ⟨u, rfl, rfl, q1, q2, q3⟩
      walk_at "rd"
      refine x_newL fun z0 H3 hz0 k3' e3 => ?_
      walk_at "rd"
      refine x_rep e3 (by decide) (by decide) fun z1 H4 hz1 k4 e4 => ?_
      have e4' : H4 z1 = some (.lst (zeros.map V.int)) := by rw [e4]; unfold zeros; rw [List.map_replicate]; rfl
      exact k z1 H4 (kp.free (k3'.free hz1 id) id) ((kp.trans k3' fun _ z => z.elim).trans k4 fun _ z => z.elim) (by unfold mpage; rw [q1 (by decide), q2 (by decide), q3 (by decide)]; exact e4')
def sp__law_write (K : PySem.W.Frag) : Sp := fun vs H Q _ => ∃ m O x n l ds, vs = [.ref m, .int n, .ref l] ∧ MdAt H m O x ∧ SqL K H l (ds.map V.int) ∧ x.dirty.length ≤ 1000000 ∧ ∀ H' O', MdAt H' m O' { x with dirty := aput x.dirty n ds } → Stp O O' H H' → Q .non H'
theorem ok__law_write (T : Txt K mg c) : GF P w K mg base CX0 1 "_law_write" (sp__law_write K) := by
  obtain ⟨f, fd, F, gm⟩ := T.f__law_write
  refine ⟨f, fd, ["_law_model", "_law_number_here", "_law_data"], F.ok sc__law_write ?_ (fun cdv A outer s H vs Q E hr h => ?_), gm, F.kp, (F.binds (ps := ["_law_model", "_law_number_here", "_law_data"]) fun _ _ _ _ _ _ us hl => match us, hl with | [_, _, _], _ => rfl)⟩
  · rintro vs H Q E ⟨_, _, _, _, _, _, rfl, _⟩
    rfl
  · obtain ⟨m, O0, x, n, l, ds, rfl, hM, hl, hz, k⟩ := h
    obtain ⟨O, b1, b2, b3, lg, k1, k2, k3, eO, D, og⟩ := hM.opn
    have ho := D.o
    refine ⟨_, (pss_cons (ps_set (i := 3) sc__law_write.nd rfl (Or.inl rfl) (pe_dget (hu_of hr) (pv 0) pe_str (fun _ _ => rfl)))
      (pss_one (ps_dput (hu_of hr) (pv 3) (pv 1) (pe_callTy (r := rLstQ K) c_list (by rfl) T.z_list (by decide +kernel) (pa_cons (pv 2) pa_nil)) rfl))), ?_⟩
    walk_at "cx"
    walk_at "rd"
    refine x_lstL hl fun b H1 hb kb eb => ?_
    have D1 := D.same kb
    have h3 := D1.h3
    have lk : k3.length = x.dirty.length := D.p3.length
    walk_at "rd"
    refine x_dpI h3 (by omega) fun H2 e2 k2' => ?_
    have D2 := D1.put3 (ds := ds) ⟨eb, by rw [eO]; exact .inr hb, D.fresh hb⟩ k2' e2
    walk_at "rd"
    exact k H2 _ (D2.clo eO) (Stp.nO (G := MdG m b1 b2 b3) ((kb.mono fun _ z => z.elim).trans k2' fun x z => .inl (.inr (.inr (.inr z)))) og)
end
section
variable {P : Program} {w : World} {K : PySem.W.Frag} {mg : Str → Option Value} {base : Heap} {c : Cl}
theorem gt_of_lt {a : List Int} {i : Nat} (h : i < a.length) : (a.map V.int)[i]? = some (.int (a.getD i 0)) := at_of_lt h
def sp__law_number : Sp := fun vs H Q _ => ∃ (m : Addr) (O : Addr → Prop) (x : MS) (k : Nat), vs = [.ref m, .int k] ∧ k ≤ 1000 ∧ MdAt H m O x ∧ 4 * (k + 1) ≤ (mpage x 0).length ∧ ∀ H', Kp F0 H H' → Q (.int (mfld x k)) H'
theorem ok__law_number (T : Txt K mg c) : GF P w K mg base CX0 2 "_law_number" sp__law_number := by
  obtain ⟨f, fd, F, gm⟩ := T.f__law_number
  refine ⟨f, fd, ["_law_model", "_law_k"], F.ok sc__law_number ?_ (fun cdv A outer s H vs Q E hr h => ?_), gm, F.kp, (F.binds (ps := ["_law_model", "_law_k"]) fun _ _ _ _ _ _ us hl => match us, hl with | [_, _], _ => rfl)⟩
  · rintro vs H Q E ⟨_, _, _, _, rfl, _⟩
    rfl
  · obtain ⟨m, O, x, n, rfl, hn, hM, hl, k⟩ := h
    refine ⟨_, (pss_cons (ps_set (i := 2) sc__law_number.nd rfl (Or.inl rfl) (pe_g (ok__law_page T) (hr.mono (by decide)) pass0S (pa_cons (pv 0) (pa_cons pe_int pa_nil))))
      (pss_one (ps_ret (pe_op op_add (pe_op op_mul (pe_op op_add (pe_op op_mul (pe_op op_add (pe_op op_mul (pe_ix (r := rIxL K) ix_list (pv 2) (pe_op op_mul pe_int (pv 1)) (fun _ _ => rfl)) pe_int) (pe_ix (r := rIxL K) ix_list (pv 2) (pe_op op_add (pe_op op_mul pe_int (pv 1)) pe_int) (fun _ _ => rfl))) pe_int) (pe_ix (r := rIxL K) ix_list (pv 2) (pe_op op_add (pe_op op_mul pe_int (pv 1)) pe_int) (fun _ _ => rfl))) pe_int) (pe_ix (r := rIxL K) ix_list (pv 2) (pe_op op_add (pe_op op_mul pe_int (pv 1)) pe_int) (fun _ _ => rfl)))))), ?_⟩
    walk_at "cx"
    walk_at "rd"
    refine ⟨m, O, x, 0, rfl, hM, fun b H1 hb k1 e1 => ?_⟩
    walk_at "rd"
    refine x_ixL (SqL.of e1) (atI_at (4 * n) (by omega) (gt_of_lt (by omega))) ?_
    walk_at "rd"
    refine x_ixL (SqL.of e1) (atI_at (4 * n + 1) (by omega) (gt_of_lt (by omega))) ?_
    walk_at "rd"
    refine x_ixL (SqL.of e1) (atI_at (4 * n + 2) (by omega) (gt_of_lt (by omega))) ?_
    walk_at "rd"
    refine x_ixL (SqL.of e1) (atI_at (4 * n + 3) (by omega) (gt_of_lt (by omega))) ?_
    walk_at "rd"
    have z := k H1 k1
    unfold mfld at z
    rw [rn4 (by omega)] at z
    exact z
def sp__law_set : Sp := fun vs H Q _ => ∃ (m : Addr) (O : Addr → Prop) (x : MS) (k : Nat) (v : Int), vs = [.ref m, .int k, .int v] ∧ k ≤ 1000 ∧ MdAt H m O x ∧ 4 * (k + 1) ≤ (mpage x 0).length ∧ (mpage x 0).length ≤ 100000 ∧ x.dirty.length ≤ 1000000 ∧ ∀ H' O', MdAt H' m O' (mset k v x) → Stp O O' H H' → Q .non H'
theorem ok__law_set (T : Txt K mg c) : GF P w K mg base CX0 2 "_law_set" sp__law_set := by
  obtain ⟨f, fd, F, gm⟩ := T.f__law_set
  refine ⟨f, fd, ["_law_model", "_law_k", "_law_number_here"], F.ok sc__law_set ?_ (fun cdv A outer s H vs Q E hr h => ?_), gm, F.kp, (F.binds (ps := ["_law_model", "_law_k", "_law_number_here"]) fun _ _ _ _ _ _ us hl => match us, hl with | [_, _, _], _ => rfl)⟩
  · rintro vs H Q E ⟨_, _, _, _, _, rfl, _⟩
    rfl
  · obtain ⟨m, O, x, n, v, rfl, hn, hM, hl, hz, hd, k⟩ := h
    refine ⟨_, (pss_cons (ps_set (i := 3) sc__law_set.nd rfl (Or.inl rfl) (pe_g (ok__law_page T) (hr.mono (by decide)) pass0S (pa_cons (pv 0) (pa_cons pe_int pa_nil))))
      (pss_one (ps_expr (pe_g (ok__law_write T) (hr.mono (by decide)) pass0S (pa_cons (pv 0) (pa_cons pe_int (pa_cons (pe_op op_cat (pe_op op_cat (pe_slice (r := rSlL K) sl_list (pv 3) po_none (po_some (pe_op op_mul pe_int (pv 1)))) (pe_g (ok__law_bytes T) (hr.mono (by decide)) pass0S (pa_cons (pv 2) pa_nil))) (pe_slice (r := rSlL K) sl_list (pv 3) (po_some (pe_op op_add (pe_op op_mul pe_int (pv 1)) pe_int)) po_none)) pa_nil))))))), ?_⟩
    walk_at "cx"
    walk_at "rd"
    refine ⟨m, O, x, 0, rfl, hM, fun b H1 hb k1 e1 => ?_⟩
    walk_at "rd"
    refine x_slL (SqL.of e1) fun s1 H2 hs1 k2 e2 => ?_
    rw [cut_to (by omega) (by omega)] at e2
    walk_at "rd"
    refine ⟨v, rfl, fun s2 H3 hs2 k3 e3 => ?_⟩
    walk_at "rd"
    refine x_catL (k3.get e2 id) e3 (by rw [List.length_map, List.length_map, List.length_take, wn_len, sizeLine_eq]; omega) fun s3 H4 hs3 k4 e4 => ?_
    have e14 := k4.get (k3.get (k2.get e1 id) id) id
    walk_at "rd"
    refine x_slL (SqL.of e14) fun s4 H5 hs4 k5 e5 => ?_
    rw [cut_from (by omega) (by omega)] at e5
    walk_at "rd"
    refine x_catL (k5.get e4 id) e5 (by rw [List.length_append, List.length_map, List.length_map, List.length_map, List.length_take, List.length_drop, wn_len, sizeLine_eq]; omega) fun s5 H6 hs5 k6 e6 => ?_
    have e6' : H6 s5 = some (.lst ((spl (mpage x 0) n v).map V.int)) := by
      rw [e6]
      unfold spl
      rw [show (4 * (n : Int)).toNat = 4 * n by omega, show (4 * (n : Int) + 4).toNat = 4 * (n + 1) by omega]
      simp only [List.map_append]
    have kz : Kp F0 H H6 := ((((k1.trans k2 fun _ z => z.elim).trans k3 fun _ z => z.elim).trans k4 fun _ z => z.elim).trans k5 fun _ z => z.elim).trans k6 fun _ z => z.elim
    refine ⟨m, O, x, 0, s5, _, rfl, hM.off kz fun _ z => z.elim, SqL.of e6', hd, fun H' O' M' s' => k H' O' M' ((Stp.pure kz).trans s')⟩
def sp__law_counted : Sp := fun vs H Q _ => ∃ (m : Addr) (O : Addr → Prop) (x : MS), vs = [.ref m] ∧ MdAt H m O x ∧ (mpage x 0).length = 256 ∧ x.dirty.length ≤ 1000000 ∧ ∀ H' O', MdAt H' m O' (mcnt x) → Stp O O' H H' → Q .non H'
theorem ok__law_counted (T : Txt K mg c) : GF P w K mg base CX0 3 "_law_counted" sp__law_counted := by
  obtain ⟨f, fd, F, gm⟩ := T.f__law_counted
  refine ⟨f, fd, ["_law_model"], F.ok sc__law_counted ?_ (fun cdv A outer s H vs Q E hr h => ?_), gm, F.kp, (F.binds (ps := ["_law_model"]) fun _ _ _ _ _ _ us hl => match us, hl with | [_], _ => rfl)⟩
  · rintro vs H Q E ⟨_, _, _, rfl, _⟩
    rfl
  · obtain ⟨m, O, x, rfl, hM, hl, hd, k⟩ := h
    refine ⟨_, (pss_one (ps_if (pt_cmpR op_eq (pe_g (ok__law_number T) (hr.mono (by decide)) pass0S (pa_cons (pv 0) (pa_cons pe_int pa_nil))) pe_int (nomark _)) (pss_one (ps_expr (pe_g (ok__law_set T) (hr.mono (by decide)) pass0S (pa_cons (pv 0) (pa_cons pe_int (pa_cons pe_int pa_nil)))))) pss_nil)), ?_⟩
    walk_at "cx"
    walk_at "rd"
    refine ⟨m, O, x, 6, rfl, by decide, hM, by omega, fun H1 kk => ?_⟩
    walk_at "rd"
    refine ite_dec (fun e => ?_) fun e => ?_
    · walk_at "rd"
      refine ⟨m, O, x, 6, 1, rfl, by decide, hM.off kk fun _ z => z.elim, by omega, by omega, hd, fun H' O' M' s' => k H' O' ?_ ((Stp.pure kk).trans s')⟩
      unfold mcnt; rw [if_pos e]; exact M'
    · refine k H1 O ?_ (Stp.pure kk)
      unfold mcnt; rw [if_neg e]; exact hM.off kk fun _ z => z.elim
def mtak (x : MS) : MS × Int := if mfld x 7 = 0 then ({ mset 6 (mfld x 6 + 1) x with dirty := aput (mset 6 (mfld x 6 + 1) x).dirty (mfld x 6) zeros }, mfld x 6) else ({ mset 7 (rn ((mpage x (mfld x 7)).take 4)) x with dirty := aput (mset 7 (rn ((mpage x (mfld x 7)).take 4)) x).dirty (mfld x 7) zeros }, mfld x 7)
def sp__law_taken : Sp := fun vs H Q _ => ∃ (m : Addr) (O : Addr → Prop) (x : MS), vs = [.ref m] ∧ MdAt H m O x ∧ (∀ n, (mpage x n).length = 256) ∧ x.dirty.length ≤ 999998 ∧ ∀ H' O', MdAt H' m O' (mtak x).1 → Stp O O' H H' → Q (.int (mtak x).2) H'
theorem ok__law_taken (T : Txt K mg c) : GF P w K mg base CX0 3 "_law_taken" sp__law_taken := by
  obtain ⟨f, fd, F, gm⟩ := T.f__law_taken
  refine ⟨f, fd, ["_law_model"], F.ok sc__law_taken ?_ (fun cdv A outer s H vs Q E hr h => ?_), gm, F.kp, (F.binds (ps := ["_law_model"]) fun _ _ _ _ _ _ us hl => match us, hl with | [_], _ => rfl)⟩
  · rintro vs H Q E ⟨_, _, _, rfl, _⟩
    rfl
  · obtain ⟨m, O, x, rfl, hM, hl, hd, k⟩ := h
    have l0 := hl 0
    refine ⟨_, (pss_cons (ps_set (i := 1) sc__law_taken.nd rfl (Or.inl rfl) (pe_g (ok__law_number T) (hr.mono (by decide)) pass0S (pa_cons (pv 0) (pa_cons pe_int pa_nil))))
      (C8.pss_cut (ps_if (pt_cmpR op_eq (pv 1) pe_int (nomark _)) (pss_cons (ps_set (i := 1) sc__law_taken.nd rfl (Or.inl rfl) (pe_g (ok__law_number T) (hr.mono (by decide)) pass0S (pa_cons (pv 0) (pa_cons pe_int pa_nil))))
      (pss_one (ps_expr (pe_g (ok__law_set T) (hr.mono (by decide)) pass0S (pa_cons (pv 0) (pa_cons pe_int (pa_cons (pe_op op_add (pv 1) pe_int) pa_nil))))))) (pss_cons (ps_set (i := 2) sc__law_taken.nd rfl (Or.inl rfl) (pe_g (ok__law_page T) (hr.mono (by decide)) pass0S (pa_cons (pv 0) (pa_cons (pv 1) pa_nil))))
      (pss_one (ps_expr (pe_g (ok__law_set T) (hr.mono (by decide)) pass0S (pa_cons (pv 0) (pa_cons pe_int (pa_cons (pe_op op_add (pe_op op_mul (pe_op op_add (pe_op op_mul (pe_op op_add (pe_op op_mul (pe_ix (r := rIxL K) ix_list (pv 2) pe_int (fun _ _ => rfl)) pe_int) (pe_ix (r := rIxL K) ix_list (pv 2) pe_int (fun _ _ => rfl))) pe_int) (pe_ix (r := rIxL K) ix_list (pv 2) pe_int (fun _ _ => rfl))) pe_int) (pe_ix (r := rIxL K) ix_list (pv 2) pe_int (fun _ _ => rfl))) pa_nil))))))))
      (pss_cons (ps_expr (pe_g (ok__law_write T) (hr.mono (by decide)) pass0S (pa_cons (pv 0) (pa_cons (pv 1) (pa_cons (pe_op op_rep (pe_lst (pa_cons pe_int pa_nil)) pe_int) pa_nil)))))
      (pss_one (ps_ret (pv 1)))))), ?_⟩
    walk_at "cx"
    walk_at "rd"
    refine ⟨m, O, x, 7, rfl, by decide, hM, by omega, fun H1 kk => ?_⟩
    walk_at "rd"
    refine x_cut (fun σ' H' => ∃ n u O' y, σ' = [some (.ref m), some (.int n), u] ∧ MdAt H' m O' y ∧ Stp O O' H H' ∧ y.dirty.length ≤ 1000000 ∧ mtak x = ({ y with dirty := aput y.dirty n zeros }, n)) ?_ ?_
    · walk_at "rd"
      refine ite_dec (fun e => ?_) fun e => ?_
      · walk_at "rd"
        refine ⟨m, O, x, 6, rfl, by decide, hM.off kk fun _ z => z.elim, by omega, fun H2 kk2 => ?_⟩
        walk_at "rd"
        refine ⟨m, O, x, 6, mfld x 6 + 1, rfl, by decide, (hM.off kk fun _ z => z.elim).off kk2 fun _ z => z.elim, by omega, by omega, by omega, fun H' O' M' s' => ?_⟩
        refine ⟨_, _, O', _, rfl, M', (Stp.pure (kk.trans kk2 fun _ z => z.elim)).trans s', ?_, by unfold mtak; rw [if_pos e]⟩
        have := aput_len x.dirty 0 (spl (mpage x 0) 6 (mfld x 6 + 1))
        show (aput x.dirty 0 (spl (mpage x 0) 6 (mfld x 6 + 1))).length ≤ _
        omega
      · walk_at "rd"
        refine ⟨m, O, x, mfld x 7, rfl, hM.off kk fun _ z => z.elim, fun b H2 hb kk2 e2 => ?_⟩
        have lp := hl (mfld x 7)
        walk_at "rd"
        refine x_ixL (SqL.of e2) (atI_at 0 rfl (gt_of_lt (by omega))) ?_
        walk_at "rd"
        refine x_ixL (SqL.of e2) (atI_at 1 rfl (gt_of_lt (by omega))) ?_
        walk_at "rd"
        refine x_ixL (SqL.of e2) (atI_at 2 rfl (gt_of_lt (by omega))) ?_
        walk_at "rd"
        refine x_ixL (SqL.of e2) (atI_at 3 rfl (gt_of_lt (by omega))) ?_
        walk_at "rd"
        have er : rn ((mpage x (mfld x 7)).take 4) = (((mpage x (mfld x 7)).getD 0 0 * 256 + (mpage x (mfld x 7)).getD 1 0) * 256 + (mpage x (mfld x 7)).getD 2 0) * 256 + (mpage x (mfld x 7)).getD 3 0 := by
          have z := rn4 (l := mpage x (mfld x 7)) (a := 0) (by omega)
          rw [List.drop_zero] at z
          exact z
        rw [← er]
        refine ⟨m, O, x, 7, _, rfl, by decide, (hM.off kk fun _ z => z.elim).off kk2 fun _ z => z.elim, by omega, by omega, by omega, fun H' O' M' s' => ?_⟩
        refine ⟨_, _, O', _, rfl, M', (Stp.pure (kk.trans kk2 fun _ z => z.elim)).trans s', ?_, by unfold mtak; rw [if_neg e]⟩
        have := aput_len x.dirty 0 (spl (mpage x 0) 7 (rn ((mpage x (mfld x 7)).take 4)))
        show (aput x.dirty 0 (spl (mpage x 0) 7 (rn ((mpage x (mfld x 7)).take 4)))).length ≤ _
        omega
    · rintro σ' H2 ⟨n, u, O', y, rfl, M', st, lz, ea⟩
      walk_at "rd"
      refine x_newL fun z0 H3 hz0 k3 e3 => ?_
      walk_at "rd"
      refine x_rep e3 (by decide) (by decide) fun z1 H4 hz1 k4 e4 => ?_
      have e4' : H4 z1 = some (.lst (zeros.map V.int)) := by rw [e4]; unfold zeros; rw [List.map_replicate]; rfl
      have k24 : Kp F0 H2 H4 := k3.trans k4 fun _ z => z.elim
      refine ⟨m, O', y, n, z1, zeros, rfl, M'.off k24 fun _ z => z.elim, SqL.of e4', lz, fun H5 O5 M5 s5 => ?_⟩
      walk_at "rd"
      have z := k H5 O5 (by rw [ea]; exact M5) ((st.trans (Stp.pure k24)).trans s5)
      rw [ea] at z
      exact z
end
def mcom (x : MS) : MS := if x.dirty.length = 0 then x else { disk := x.disk, log := x.log ++ wg (grp x.dirty), since := puts x.since (grp x.dirty), dirty := [], steps := x.steps + 5 + 260 * x.dirty.length }
def mchk (x : MS) : MS := { disk := coms x.since x.disk, log := [], since := [], dirty := x.dirty, steps := x.steps + x.since.length + 3 }
section
variable {P : Program} {w : World} {K : PySem.W.Frag} {mg : Str → Option Value} {base : Heap} {c : Cl}
def sp__law_committed : Sp := fun vs H Q _ => ∃ (m : Addr) (O : Addr → Prop) (x : MS), vs = [.ref m] ∧ MdAt H m O x ∧ Good (grp x.dirty) ∧ x.since.length ≤ 1000 ∧ x.log.length ≤ 8000000 ∧ ∀ H' O', MdAt H' m O' (mcom x) → Stp O O' H H' → Q .non H'
theorem ok__law_committed (T : Txt K mg c) : GF P w K mg base CX0 2 "_law_committed" sp__law_committed := by
  obtain ⟨f, fd, F, gm⟩ := T.f__law_committed
  refine ⟨f, fd, ["_law_model"], F.ok sc__law_committed ?_ (fun cdv A outer s H vs Q E hr h => ?_), gm, F.kp, (F.binds (ps := ["_law_model"]) fun _ _ _ _ _ _ us hl => match us, hl with | [_], _ => rfl)⟩
  · rintro vs H Q E ⟨_, _, _, rfl, _⟩
    rfl
  · obtain ⟨m, O0, x, rfl, hM, gd, ls, ll, k⟩ := h
    obtain ⟨O, b1, b2, b3, l, k1, k2, k3, eO, D, og⟩ := hM.opn
    have fr : ∀ {H'}, Kp (MdG m b1 b2 b3) H H' → ∀ b, H' b = none → O b := fun {H'} kk b hb => by
      rw [eO]
      by_cases z : O0 b
      · exact .inl z
      · exact .inr (kk.free hb fun g => z (og b g))
    have ho := D.o
    have h3 := D.h3
    have lk : k3.length = x.dirty.length := D.p3.length
    have lgr : (grp x.dirty).length = x.dirty.length := by unfold grp; rw [List.length_map, skeys_len]
    have gn := gd.n
    refine ⟨_, (pss_cons (ps_set (i := 1) sc__law_committed.nd rfl (Or.inl rfl) (pe_dget (hu_of hr) (pv 0) pe_str (fun _ _ => rfl)))
      (pss_cons (ps_if (pt_cmpR op_eq (pe_callB call_lenD (by rfl) T.z_len PySem.boot_len (pa_cons (pv 1) pa_nil)) pe_int (nomark _)) (pss_one ps_retN) pss_nil)
      (pss_cons (ps_set (i := 2) sc__law_committed.nd rfl (Or.inl rfl) (pe_op op_cat (pe_dget (hu_of hr) (pv 0) pe_str (fun _ _ => rfl)) (pe_g (ok__law_bytes T) (hr.mono (by decide)) pass0S (pa_cons (pe_callB call_lenD (by rfl) T.z_len PySem.boot_len (pa_cons (pv 1) pa_nil)) pa_nil))))
      (pss_cons (ps_set (i := 3) sc__law_committed.nd rfl (Or.inl rfl) (pe_dget (hu_of hr) (pv 0) pe_str (fun _ _ => rfl)))
      (pss_cons (ps_for PassesOwn.never rfl (pi_listK rfl (pe_callB (c_sortedDI rfl) (by rfl) T.z_sorted (by decide +kernel) (pa_cons (pv 1) pa_nil))) (pg_name (i := 4) sc__law_committed.nd rfl (Or.inl rfl)) (pss_cons (ps_set (i := 2) sc__law_committed.nd rfl (Or.inl rfl) (pe_op op_cat (pe_op op_cat (pv 2) (pe_g (ok__law_bytes T) (hr.mono (by decide)) pass0S (pa_cons (pv 4) pa_nil))) (pe_dget (hu_of hr) (pv 1) (pv 4) (fun _ _ => rfl))))
      (pss_one (ps_dput (hu_of hr) (pv 3) (pv 4) (pe_dget (hu_of hr) (pv 1) (pv 4) (fun _ _ => rfl)) rfl))))
      (pss_cons (ps_dput (hu_of hr) (pv 0) pe_str (pv 2) rfl)
      (pss_cons (ps_dput (hu_of hr) (pv 0) pe_str pe_dnewK rfl)
      (pss_one (ps_dput (hu_of hr) (pv 0) pe_str (pe_op op_add (pe_op op_add (pe_dget (hu_of hr) (pv 0) pe_str (fun _ _ => rfl)) pe_int) (pe_op op_mul pe_int (pe_callB call_lenD (by rfl) T.z_len PySem.boot_len (pa_cons (pv 1) pa_nil)))) rfl))))))))), ?_⟩
    walk_at "cx"
    walk_at "rd"
    refine ⟨b3, k3, rfl, h3, ?_⟩
    rw [lk]
    walk_at "rd"
    refine ite_dec (fun e => ?_) fun e => ?_
    · walk_at "rd"
      exact k H O0 (by unfold mcom; rw [if_pos (by omega)]; exact hM) (Stp.refl _ _)
    · walk_at "rd"
      refine ⟨b3, k3, rfl, h3, ?_⟩
      rw [lk]
      walk_at "rd"
      refine ⟨_, rfl, fun a1 H1 ha1 kk1 e1 => ?_⟩
      walk_at "rd"
      refine x_catL (kk1.get D.lg.1 id) e1 (by rw [List.length_map, List.length_map, wn_len, sizeLine_eq]; omega) fun a2 H2 ha2 kk2 e2 => ?_
      have k02 : Kp F0 H H2 := kk1.trans kk2 fun _ z => z.elim
      have D2 := D.same k02
      have ho2 := D2.o
      have h32 := D2.h3
      walk_at "rd"
      refine x_srtD h32 (keys_pr D2.p3) (by rw [List.length_map]; omega) fun ys ps H3 hy1 hy2 hps kk3 e3 => ?_
      obtain rfl := skeys_eq hy1 hy2
      have D3 := D2.same kk3
      have k03 : Kp F0 H H3 := k02.trans kk3 fun _ z => z.elim
      have nps := D2.fresh hps
      walk_at "rd"
      refine wfor Wk.list (fun i σ H' => ∃ a k2' u, σ = [some (.ref m), some (.ref b3), some (.ref a), some (.ref b2), u] ∧ MdA O H' m b1 b2 b3 l k1 k2' k3 { x with since := puts x.since ((grp x.dirty).take i) } ∧ Im H' O (MdG m b1 b2 b3) a (x.log ++ (wn 4 x.dirty.length ++ ((grp x.dirty).take i).flatMap chunk)) ∧ k2'.length ≤ x.since.length + i ∧ Kp (MdG m b1 b2 b3) H H' ∧ Kp (MdG m b1 b2 b3) H3 H')
        ⟨a2, k2, none, rfl, D3, ⟨by rw [kk3.get e2 id, ← List.map_append]; simp, fr (kk1.mono fun _ z => z.elim) _ ha2, (D.same kk1).fresh ha2⟩, by rw [D.p2.length]; exact Nat.le_refl _, k03.mono fun _ z => z.elim, Kp.refl _⟩ (fun i σ H' ⟨_, _, _, _, _, _, _, _, kk⟩ => SqL.of (kk.get e3 nps)) ?_ ?_
      · rintro i y σ H4 ex ⟨a, k2', u, rfl, D4, ia, l4, kk4, kk34⟩
        obtain ⟨n, en, rfl⟩ := getE' ex
        obtain ⟨ds, hds, _⟩ := mem_skeys (List.mem_of_getElem? en)
        obtain ⟨p, el, il⟩ := get_some D4.p3 hds
        have h34 := D4.h3
        have gq := grp_at en
        rw [hds] at gq
        have tk : (grp x.dirty).take (i + 1) = (grp x.dirty).take i ++ [(n, ds)] := by rw [List.take_succ, gq]; rfl
        have hi60 : i < (grp x.dirty).length := (List.getElem?_eq_some_iff.mp gq).1
        have lds : ds.length = 256 := (gd.q _ (List.mem_of_getElem? gq)).2.2
        have lfm : (((grp x.dirty).take i).flatMap chunk).length ≤ 260 * 60 := by
          rw [fm_len (n := 260) fun q hq => chunk_len (gd.q q (List.mem_of_mem_take hq)).2.2, List.length_take]; omega
        walk_at "rd"
        refine ⟨n, rfl, fun c1 H5 hc1 k5 f5 => ?_⟩
        walk_at "rd"
        refine x_catL (k5.get ia.1 id) f5 (by rw [List.length_map, List.length_map, List.length_append, List.length_append, wn_len, wn_len, sizeLine_eq]; omega) fun c2 H6 hc2 k6 f6 => ?_
        have k46 : Kp F0 H4 H6 := k5.trans k6 fun _ z => z.elim
        have D6 := D4.same k46
        have h36 := D6.h3
        have il6 := il.kp (G := MdG m b1 b2 b3) k46 fun _ z => z.elim
        walk_at "rd"
        refine x_dgI (.inl h36) el ?_
        refine x_catL f6 il6.1 (by rw [List.length_append, List.length_map, List.length_map, List.length_map, List.length_append, List.length_append, wn_len, wn_len, sizeLine_eq]; omega) fun c3 H7 hc3 k7 f7 => ?_
        have D7 := D6.same k7
        have h37 := D7.h3
        have h27 := D7.h2
        have il7 := il6.kp (G := MdG m b1 b2 b3) k7 fun _ z => z.elim
        have k47 : Kp F0 H4 H7 := k46.trans k7 fun _ z => z.elim
        have fc3 := fr (kk4.trans k46 fun _ z => z.elim) _ hc3
        have nc3 := D6.fresh hc3
        walk_at "rd"
        refine x_dgI (.inl h37) el ?_
        walk_at "rd"
        refine x_dpI h27 (by omega) fun H8 e8 k8 => ?_
        have D8 := D7.put2 (ds := ds) il7 k8 e8
        have l8 := D8.p2.length
        have l9 := aput_len (puts x.since ((grp x.dirty).take i)) n ds
        have l10 := D4.p2.length
        have kz : Kp (MdG m b1 b2 b3) H4 H8 := (k47.mono fun _ z => z.elim).trans k8 fun x z => .inl (.inr (.inr (.inl z)))
        refine ⟨c3, putK k2' (.inl n) (.ref p), some (.int n), rfl, ?_, ⟨?_, fc3, nc3⟩, ?_, kk4.trans kz fun _ z => .inl z, kk34.trans kz fun _ z => .inl z⟩
        · rw [tk]; unfold puts; rw [List.foldl_append]; exact D8
        · rw [k8.get f7 fun z => nc3 (.inr (.inr (.inl z))), tk, List.flatMap_append]
          simp only [List.map_append, List.append_assoc, List.flatMap_cons, List.flatMap_nil, List.append_nil, chunk]
        · rw [l8]
          refine Nat.le_trans l9 ?_
          rw [← show k2'.length = _ from l10]
          omega
      · rintro σ H4 ⟨a, k2', u, rfl, D4, ia, l4, kk4, kk34⟩
        rw [List.length_map, skeys_len, ← lgr, List.take_length] at D4 ia
        have ho4 := D4.o
        walk_at "rd"
        intro H5 p5 k5
        have D5 := D4.newlog ia k5 p5
        have kk5 : Kp (MdG m b1 b2 b3) H H5 := kk4.trans k5 fun _ z => .inl (.inl z)
        have ho5 := D5.o
        walk_at "rd"
        refine x_dnew fun e' H6 he' k6 e6 => ?_
        have ho6 := k6.get ho5 id
        have h36 := (D5.same k6).h3
        walk_at "rd"
        intro H7 p7 k7
        have kz : Kp (F1 m) H5 H7 := (k6.mono fun _ z => z.elim).trans k7 fun _ z => .inl z
        have D7 := D5.new3 he' kz p7 (k7.get e6 (ne_of_none ho5 he').symm) (fr kk5 _ he')
        have ho7 := D7.o
        have h37 := k7.get h36 (fun z => D5.m3 z.symm)
        walk_at "rd"
        refine ⟨b3, k3, rfl, h37, ?_⟩
        rw [lk]
        walk_at "rd"
        intro H8 p8 k8
        have D8 := D7.num k8 p8
        have kk8 : Kp (MdG m b1 b2 b3) H H8 := (kk5.trans kz fun _ z => .inl (.inl z)).trans k8 fun _ z => .inl (.inl z)
        refine k H8 _ ?_ (Stp.nO kk8 og)
        have em : mcom x = { disk := x.disk, log := x.log ++ (wn 4 (grp x.dirty).length ++ (grp x.dirty).flatMap chunk), since := puts x.since (grp x.dirty), dirty := [], steps := x.steps + 5 + 260 * x.dirty.length } := by
          unfold mcom; rw [if_neg (by omega)]; rfl
        rw [em]
        exact D8.clo eO
def sp__law_checked : Sp := fun vs H Q _ => ∃ (m : Addr) (O : Addr → Prop) (x : MS), vs = [.ref m] ∧ MdAt H m O x ∧ x.disk.length + x.since.length ≤ 1000000 ∧ ∀ H' O', MdAt H' m O' (mchk x) → Stp O O' H H' → Q .non H'
theorem ok__law_checked (T : Txt K mg c) : GF P w K mg base CX0 1 "_law_checked" sp__law_checked := by
  obtain ⟨f, fd, F, gm⟩ := T.f__law_checked
  refine ⟨f, fd, ["_law_model"], F.ok sc__law_checked ?_ (fun cdv A outer s H vs Q E hr h => ?_), gm, F.kp, (F.binds (ps := ["_law_model"]) fun _ _ _ _ _ _ us hl => match us, hl with | [_], _ => rfl)⟩
  · rintro vs H Q E ⟨_, _, _, rfl, _⟩
    rfl
  · obtain ⟨m, O0, x, rfl, hM, lz, k⟩ := h
    obtain ⟨O, b1, b2, b3, l, k1, k2, k3, eO, D, og⟩ := hM.opn
    have fr : ∀ {H'}, Kp (MdG m b1 b2 b3) H H' → ∀ b, H' b = none → O b := fun {H'} kk b hb => by
      rw [eO]
      by_cases z : O0 b
      · exact .inl z
      · exact .inr (kk.free hb fun g => z (og b g))
    have ho := D.o
    have h2 := D.h2
    have lk : k2.length = x.since.length := D.p2.length
    refine ⟨_, (pss_cons (ps_set (i := 1) sc__law_checked.nd rfl (Or.inl rfl) (pe_dget (hu_of hr) (pv 0) pe_str (fun _ _ => rfl)))
      (pss_cons (ps_set (i := 2) sc__law_checked.nd rfl (Or.inl rfl) (pe_dget (hu_of hr) (pv 0) pe_str (fun _ _ => rfl)))
      (pss_cons (ps_lock (ps_for PassesOwn.never rfl (pi_keys (pv 2)) (pg_name (i := 3) sc__law_checked.nd rfl (Or.inl rfl)) (pss_one (ps_dput (hu_of hr) (pv 1) (pv 3) (pe_dget (hu_of hr) (pv 2) (pv 3) (fun _ _ => rfl)) rfl))))
      (pss_cons (ps_dput (hu_of hr) (pv 0) pe_str (pe_op op_add (pe_op op_add (pe_dget (hu_of hr) (pv 0) pe_str (fun _ _ => rfl)) (pe_callB call_lenD (by rfl) T.z_len PySem.boot_len (pa_cons (pv 2) pa_nil))) pe_int) rfl)
      (pss_cons (ps_dput (hu_of hr) (pv 0) pe_str pe_dnewK rfl)
      (pss_one (ps_dput (hu_of hr) (pv 0) pe_str (pe_lst pa_nil) rfl))))))), ?_⟩
    walk_at "cx"
    walk_at "rd"
    refine x_lock h2 trivial fun od => ?_
    have DL : MdA O (upd (upd H b2 (.frz od (.dK k2))) b2 (.dK k2)) m b1 b2 b3 l k1 k2 k3 x := by rw [upd_upd, upd_id h2]; exact D
    refine x_for ?_
    refine x_keys ?_
    walk_at "rd"
    refine x_kq upd_same ?_
    refine wfor Wk.keys (fun i σ H' => ∃ k1' u, σ = [some (.ref m), some (.ref b1), some (.ref b2), u] ∧ H' b2 = some (.frz od (.dK k2)) ∧ MdA O (upd H' b2 (.dK k2)) m b1 b2 b3 l k1' k2 k3 { x with disk := (x.since.take i).foldl (fun a q => aput a q.1 ((aget x.since q.1).getD [])) x.disk } ∧ k1'.length ≤ x.disk.length + i ∧ Kp (MdG m b1 b2 b3) H (upd H' b2 (.dK k2)))
      ⟨k1, none, rfl, upd_same, DL, by rw [D.p1.length]; exact Nat.le_refl _, by rw [upd_upd, upd_id h2]; exact Kp.refl _⟩ (fun i σ H' ⟨_, _, _, z, _⟩ => z) ?_ ?_
    · rintro i y σ H6 ex ⟨k1', u, rfl, e6, D6, l6, kk6⟩
      rw [List.getElem?_map] at ex
      cases e7 : k2[i]? with
      | none => rw [e7] at ex; cases ex
      | some kv =>
        rw [e7] at ex
        obtain ⟨r, er, rk, _⟩ := pget D6.p2 e7
        have er' : x.since[i]? = some r := er
        have ex' : y = .int r.1 := (Option.some.inj ex).symm.trans (congrArg kV rk)
        subst ex'
        obtain ⟨ds, hds⟩ := aget_mem (List.mem_of_getElem? er')
        obtain ⟨p, el, il⟩ := get_some D6.p2 hds
        have h16 : H6 b1 = some (.dK k1') := by have z := D6.h1; rwa [upd_ne D6.n12] at z
        have hi : i < k2.length := (List.getElem?_eq_some_iff.mp e7).1
        walk_at "rd"
        refine x_dgI (.inr ⟨od, e6⟩) el ?_
        walk_at "rd"
        refine x_dpI h16 (by omega) fun H7 e7' k7 => ?_
        have D7 := D6.put1 (ds := ds) il (k7.under b2 (.dK k2)) (by rw [upd_ne D6.n12]; exact e7')
        have l7 := D7.p1.length
        have l8 := aput_len ((x.since.take i).foldl (fun a q => aput a q.1 ((aget x.since q.1).getD [])) x.disk) r.1 ds
        have l9 := D6.p1.length
        refine ⟨putK k1' (.inl r.1) (.ref p), some (.int r.1), rfl, k7.get e6 fun z => D6.n12 z.symm, ?_, ?_, kk6.trans (k7.under b2 (.dK k2)) fun x z => .inl (.inr (.inl z))⟩
        · rw [List.take_succ, er', List.foldl_append]
          show MdA O _ m b1 b2 b3 l _ k2 k3 { disk := aput _ r.1 ((aget x.since r.1).getD []), log := x.log, since := x.since, dirty := x.dirty, steps := x.steps }
          rw [hds]
          exact D7
        · rw [l7]
          refine Nat.le_trans l8 ?_
          rw [← show k1'.length = _ from l9]
          omega
    · rintro σ H6 ⟨k1', u, rfl, e6, D6, l6, kk6⟩
      rw [List.length_map, lk, List.take_length] at D6
      refine ⟨e6, ?_⟩
      have ho6 := D6.o
      have h26 := D6.h2
      generalize upd H6 b2 (.dK k2) = H7 at D6 kk6 ho6 h26
      walk_at "rd"
      refine ⟨b2, k2, rfl, h26, ?_⟩
      rw [lk]
      walk_at "rd"
      intro H8 p8 k8
      have D8 := D6.num k8 p8
      have ho8 := D8.o
      walk_at "rd"
      refine x_dnew fun e' H9 he' k9 e9 => ?_
      have ho9 := k9.get ho8 id
      walk_at "rd"
      intro H10 p10 k10
      have kz : Kp (F1 m) H8 H10 := (k9.mono fun _ z => z.elim).trans k10 fun _ z => .inl z
      have kk8 : Kp (MdG m b1 b2 b3) H H8 := kk6.trans k8 fun _ z => .inl (.inl z)
      have D10 := D8.new2 he' kz p10 (k10.get e9 (ne_of_none ho8 he').symm) (fr kk8 _ he')
      have ho10 := D10.o
      have kk10 : Kp (MdG m b1 b2 b3) H H10 := kk8.trans kz fun _ z => .inl (.inl z)
      walk_at "rd"
      refine x_newL fun nl H11 hnl k11 e11 => ?_
      have D11 := D10.same k11
      have ho11 := D11.o
      walk_at "rd"
      intro H12 p12 k12
      have D12 := D11.newlog (ds := []) ⟨e11, fr kk10 _ hnl, D10.fresh hnl⟩ k12 p12
      exact k H12 _ (D12.clo eO) (Stp.nO ((kk10.trans k11 fun _ z => z.elim).trans k12 fun _ z => .inl (.inl z)) og)
end
/-! ### the law's model and the pager say the same -/
def nkeys (l : List (Int × List Int)) : Prop := (l.map (·.1)).Nodup
theorem aput_nk {l : List (Int × List Int)} {n : Int} {v : List Int} (h : nkeys l) : nkeys (aput l n v) := by
  unfold nkeys aput at *
  split
  · rw [List.map_map, show ((fun q : Int × List Int => q.1) ∘ fun q => if q.1 = n then (q.1, v) else q) = fun q => q.1 by funext q; show (if q.1 = n then (q.1, v) else q).1 = q.1; split <;> rfl]
    exact h
  · rename_i e
    rw [List.map_append, List.nodup_append]
    refine ⟨h, by simp, fun a ha b hb => ?_⟩
    have hb' : b = n := by simpa using hb
    subst hb'
    intro z
    subst z
    obtain ⟨q, hq, e2⟩ := List.mem_map.mp ha
    exact e (List.any_eq_true.mpr ⟨q, hq, decide_eq_true e2⟩)
theorem kput_nk {f : Int → List Int} : ∀ {ks : List Int} {m : List (Int × List Int)}, nkeys m → nkeys (kput f ks m)
  | [], _, h => h
  | _ :: ks, _, h => kput_nk (ks := ks) (aput_nk h)
theorem nd_len : ∀ {l l' : List Int}, l.Nodup → (∀ n ∈ l, n ∈ l') → l.length ≤ l'.length
  | [], _, _, _ => Nat.zero_le _
  | a :: t, l', h, s => by
    rw [List.nodup_cons] at h
    have ha := s a (by simp)
    have h1 := nd_len (l := t) (l' := l'.erase a) h.2 fun n hn => by
      have : n ≠ a := fun z => h.1 (by rw [← z]; exact hn)
      exact (List.mem_erase_of_ne this).mpr (s n (List.mem_cons_of_mem _ hn))
    rw [List.length_erase_of_mem ha] at h1
    have : 0 < l'.length := List.length_pos_of_mem ha
    rw [List.length_cons]; omega
theorem same_len {l m : List (Int × List Int)} (hl : nkeys l) (hm : nkeys m) (e : ∀ n, aget l n = aget m n) : l.length = m.length := by
  have h1 := nd_len hl (l' := m.map (·.1)) fun n hn => (key_iff m n).mpr (by rw [← e]; exact (key_iff l n).mp hn)
  have h2 := nd_len hm (l' := l.map (·.1)) fun n hn => (key_iff l n).mpr (by rw [e]; exact (key_iff m n).mp hn)
  rw [List.length_map, List.length_map] at h1 h2
  omega
structure RX (x : MS) (s : PgS) : Prop where
  di : x.dirty = s.dir
  si : ∀ n, aget x.since n = aget s.com n
  dk : ∀ n, aget x.disk n = aget s.dev.pages n
  lg : x.log = s.dev.log
  st : x.steps = s.dev.done
  n1 : nkeys x.since
  n2 : nkeys s.com
  n3 : nkeys x.disk
  n4 : nkeys s.dev.pages
theorem RX.dlen {x : MS} {s : PgS} (h : RX x s) : x.disk.length = s.dev.pages.length := same_len h.n3 h.n4 h.dk
theorem RX.len {x : MS} {s : PgS} (h : RX x s) : x.since.length = s.com.length := same_len h.n1 h.n2 h.si
theorem RX.page {k i : Nat} {x : MS} {s : PgS} {gs : List (List (Int × List Int))} (h : RX x s) (p : PSt k i s gs) : mpage x = gpg s := by
  funext n
  rw [gpg_at p]
  unfold mpage
  rw [h.di, h.si, h.dk]
theorem RX.put {x : MS} {s : PgS} (h : RX x s) (n : Int) (ds : List Int) : RX { x with dirty := aput x.dirty n ds } (pwr n ds s) :=
  ⟨by show aput x.dirty n ds = aput s.dir n ds; rw [h.di], h.si, h.dk, h.lg, h.st, h.n1, h.n2, h.n3, h.n4⟩
theorem RX.set {k i : Nat} {x : MS} {s : PgS} {gs : List (List (Int × List Int))} (h : RX x s) (p : PSt k i s gs) (f : Nat) (v : Int) : RX (mset f v x) (setf f v s) := by
  unfold mset setf
  rw [h.page p]
  exact h.put 0 _
theorem RX.fld {k i : Nat} {x : MS} {s : PgS} {gs : List (List (Int × List Int))} (h : RX x s) (p : PSt k i s gs) (f : Nat) : mfld x f = fld s f := by
  unfold mfld NV.fld; rw [h.page p]
theorem RX.cnt {k i : Nat} {x : MS} {s : PgS} {gs : List (List (Int × List Int))} (h : RX x s) (p : PSt k i s gs) : RX (mcnt x) (cnth s) := by
  unfold mcnt cnth
  rw [h.fld p]
  split
  · exact h.set p 6 1
  · exact h
theorem RX.tak {k i : Nat} {x : MS} {s : PgS} {gs : List (List (Int × List Int))} (h : RX x s) (p : PSt k i s gs) : RX (mtak x).1 (palloc s).1 ∧ (mtak x).2 = (palloc s).2 := by
  unfold mtak palloc
  rw [h.fld p, h.fld p, h.page p]
  split
  · exact ⟨(h.set p 6 _).put _ _, rfl⟩
  · exact ⟨(h.set p 7 _).put _ _, rfl⟩
theorem pcommit_eq {k i : Nat} {s : PgS} {gs : List (List (Int × List Int))} (h : PSt k i s gs) (e : s.dir.length ≠ 0) : pcommit s = ({ dev := { s.dev with done := s.dev.done + (wg (grp s.dir)).length + 1, log := s.dev.log ++ wg (grp s.dir), steps := [] }, com := coms s.dir s.com, dir := [] }, true) := by
  have c1 : (andD (dApp (wg (grp s.dir)) s.dev) dSyncL) = ({ s.dev with done := s.dev.done + (wg (grp s.dir)).length + 1, log := s.dev.log ++ wg (grp s.dir), steps := [] }, true) := by
    rw [dApp_ok _ _ h.mo, andD_yes rfl, dSyncL_ok (by exact h.mo)]
    unfold NV.clog
    show (({ pages := s.dev.pages, writes := s.dev.writes, log := (s.dev.steps ++ (wg (grp s.dir)).map some).foldl lstep s.dev.log, steps := [], done := _, most := _ } : DevS), true) = _
    rw [h.st, List.nil_append, fold_some]
  unfold pcommit; rw [if_neg e, c1]; rfl
theorem RX.com {k i : Nat} {x : MS} {s : PgS} {gs : List (List (Int × List Int))} (h : RX x s) (p : PSt k i s gs) (hk : k ≤ 60) (hi : i ≤ 60) : RX (mcom x) (pcommit s).1 := by
  by_cases e : s.dir.length = 0
  · have e1 : mcom x = x := by unfold mcom; rw [if_pos (by rw [h.di]; exact e)]
    have e2 : pcommit s = (s, true) := by unfold pcommit; rw [if_pos e]
    rw [e1, e2]; exact h
  · have n1 := p.n1
    have gd : Good (grp s.dir) := (p.pgz hk hi).good.resolve_right (by omega)
    have lgr : (grp s.dir).length = s.dir.length := by unfold grp; rw [List.length_map, skeys_len]
    have e1 : mcom x = { disk := x.disk, log := x.log ++ wg (grp x.dirty), since := puts x.since (grp x.dirty), dirty := [], steps := x.steps + 5 + 260 * x.dirty.length } := by unfold mcom; rw [if_neg (by rw [h.di]; exact e)]
    rw [e1, pcommit_eq p e, h.di]
    refine ⟨rfl, fun n => ?_, h.dk, by show x.log ++ _ = s.dev.log ++ _; rw [h.lg], ?_, by rw [puts_k]; exact kput_nk h.n1, by show nkeys (coms s.dir s.com); rw [coms_k]; exact kput_nk h.n2, h.n3, h.n4⟩
    · show aget (puts x.since (grp s.dir)) n = aget (coms s.dir s.com) n
      rw [aget_pgrp, aget_coms, h.si]
    · show x.steps + 5 + 260 * (s.dir.length : Int) = s.dev.done + ((wg (grp s.dir)).length : Int) + 1
      rw [wg_len gd, lgr, h.st]; omega
theorem pckpt_eq {k i : Nat} {s : PgS} {gs : List (List (Int × List Int))} (h : PSt k i s gs) : pckpt s = ({ dev := { pages := puts s.dev.pages (grp s.com), writes := [], log := [], steps := [], done := s.dev.done + (grp s.com).length + 1 + 1 + 1, most := none }, com := [], dir := s.dir }, true) := by
  have c1 : andD (andD (andD (pwrites (grp s.com) s.dev) dSyncP) (dByte none)) dSyncL = ({ pages := puts s.dev.pages (grp s.com), writes := [], log := [], steps := [], done := s.dev.done + (grp s.com).length + 1 + 1 + 1, most := none }, true) := by
    rw [pwrites_ok _ _ h.mo, andD_mk, dSyncP_ok (by exact h.mo), andD_mk, dByte_ok (by exact h.mo), andD_mk, dSyncL_ok (by exact h.mo)]
    unfold NV.clog
    simp [h.w, h.st, h.mo, lstep]
  unfold pckpt; rw [c1]; rfl
theorem RX.chk {k i : Nat} {x : MS} {s : PgS} {gs : List (List (Int × List Int))} (h : RX x s) (p : PSt k i s gs) : RX (mchk x) (pckpt s).1 := by
  have lgr : (grp s.com).length = s.com.length := by unfold grp; rw [List.length_map, skeys_len]
  rw [pckpt_eq p]
  refine ⟨h.di, fun n => rfl, fun n => ?_, rfl, ?_, List.nodup_nil, List.nodup_nil, by show nkeys (coms x.since x.disk); rw [coms_k]; exact kput_nk h.n3, by show nkeys (puts s.dev.pages (grp s.com)); rw [puts_k]; exact kput_nk h.n4⟩
  · show aget (coms x.since x.disk) n = aget (puts s.dev.pages (grp s.com)) n
    rw [aget_coms, aget_pgrp, h.si, h.dk]
  · show x.steps + (x.since.length : Int) + 3 = s.dev.done + ((grp s.com).length : Int) + 1 + 1 + 1
    rw [lgr, h.len, h.st]; omega
/-! ### all pages are bytes -/
def BYv (v : Int → List Int) : Prop := ∀ n, Byt (v n)
theorem rn_lt' : ∀ (l : List Int) (a : Int), 0 ≤ a → Byt l → l.foldl (fun a b => a * 256 + b) a < (a + 1) * 256 ^ l.length
  | [], a, _, _ => by show a < (a + 1) * 1; omega
  | x :: l, a, h0, h => by
    have hx := h x (by simp)
    have h1 := rn_lt' l (a * 256 + x) (by omega) fun y hy => h y (List.mem_cons_of_mem _ hy)
    have h2 : (a * 256 + x + 1) * 256 ^ l.length ≤ ((a + 1) * 256) * 256 ^ l.length := Int.mul_le_mul_of_nonneg_right (by omega) (Int.le_of_lt (pow256 _))
    have h3 : (a + 1) * 256 ^ (x :: l).length = ((a + 1) * 256) * 256 ^ l.length := by rw [List.length_cons, Int.pow_succ, Int.mul_comm (256 ^ l.length) 256, Int.mul_assoc]
    rw [h3]
    exact Int.lt_of_lt_of_le h1 h2
theorem rn_b4 {l : List Int} (h : Byt l) (hl : l.length ≤ 4) : 0 ≤ rn l ∧ rn l < 256 ^ 4 := by
  refine ⟨rn_nn h, ?_⟩
  have h1 := rn_lt' l 0 (by decide) h
  have h2 : (256 : Int) ^ l.length ≤ 256 ^ 4 := by
    rcases (by omega : l.length = 0 ∨ l.length = 1 ∨ l.length = 2 ∨ l.length = 3 ∨ l.length = 4) with e | e | e | e | e <;> rw [e] <;> decide
  show l.foldl (fun a b => a * 256 + b) 0 < _
  omega
theorem Byt.sub {l m : List Int} (h : Byt l) (s : ∀ x ∈ m, x ∈ l) : Byt m := fun x hx => h x (s x hx)
theorem Byt.app {l m : List Int} (h : Byt l) (g : Byt m) : Byt (l ++ m) := fun x hx => by
  rcases List.mem_append.mp hx with y | y
  · exact h x y
  · exact g x y
theorem Byt.rep {n : Nat} {b : Int} (h : 0 ≤ b ∧ b < 256) : Byt (List.replicate n b) := fun x hx => by rw [List.eq_of_mem_replicate hx]; exact h
theorem Byt.zeros : Byt zeros := Byt.rep (by decide)
theorem BYv.fld {v : Int → List Int} (h : BYv v) (k : Nat) : 0 ≤ vf v k ∧ vf v k < 256 ^ 4 :=
  rn_b4 ((h 0).sub fun x hx => List.mem_of_mem_drop (List.mem_of_mem_take hx)) (by rw [List.length_take]; omega)
theorem BYv.four {v : Int → List Int} (h : BYv v) (n : Int) : 0 ≤ rn ((v n).take 4) ∧ rn ((v n).take 4) < 256 ^ 4 :=
  rn_b4 ((h n).sub fun x hx => List.mem_of_mem_take hx) (by rw [List.length_take]; omega)
theorem BYv.put {v : Int → List Int} (h : BYv v) (n : Int) {ds : List Int} (g : Byt ds) : BYv (vput v n ds) := fun m => by
  unfold vput; split
  · exact g
  · exact h m
theorem BYv.set {v : Int → List Int} (h : BYv v) (k : Nat) (x : Int) : BYv (vset v k x) :=
  h.put 0 (((h 0).sub fun x hx => List.mem_of_mem_take hx).app (wn_byt 4 x) |>.app ((h 0).sub fun x hx => List.mem_of_mem_drop hx))
theorem BYv.cn {v : Int → List Int} (h : BYv v) : BYv (vcn v) := by
  unfold vcn; split
  · exact h.set 6 1
  · exact h
theorem BYv.alloc {s : PgS} (h : BYv (gpg s)) : BYv (gpg (palloc s).1) := by
  unfold palloc; split
  · show BYv (gpg (pwr _ _ (setf _ _ _))); rw [gpg_pwr, gpg_set]; exact (h.set 6 _).put _ Byt.zeros
  · show BYv (gpg (pwr _ _ (setf _ _ _))); rw [gpg_pwr, gpg_set]; exact (h.set 7 _).put _ Byt.zeros
theorem palloc_b {s : PgS} (h : BYv (gpg s)) : 0 ≤ (palloc s).2 ∧ (palloc s).2 < 256 ^ 4 := by
  unfold palloc; split
  · exact h.fld 6
  · exact h.fld 7
theorem PSt.alloc {k i : Nat} {s : PgS} {gs : List (List (Int × List Int))} (p : PSt k i s gs) (h : BYv (gpg s)) : PSt (k + 2) i (palloc s).1 gs := by
  unfold palloc; split
  · exact (p.set (by decide)).put (h.fld 6) zeros_len
  · exact (p.set (by decide)).put (h.fld 7) zeros_len
theorem bv_alloc (s : PgS) : bv (palloc s).1 = bv s := by unfold palloc; split <;> rfl
/-- a release, by the model and by the pager -/
def mrel (n : Int) (x : MS) : MS := mset 7 n { x with dirty := aput x.dirty n (wn 4 (mfld x 7) ++ List.replicate 252 0) }
theorem PSt.rel {k i : Nat} {s : PgS} {gs : List (List (Int × List Int))} {n : Int} (p : PSt k i s gs) (hn : 0 ≤ n ∧ n < 256 ^ 4) : PSt (k + 2) i (prel n s) gs :=
  (p.put hn (by rw [List.length_append, wn_len, List.length_replicate])).set (by decide)
theorem RX.rel {k i : Nat} {x : MS} {s : PgS} {gs : List (List (Int × List Int))} {n : Int} (h : RX x s) (p : PSt k i s gs) (hn : 0 ≤ n ∧ n < 256 ^ 4) : RX (mrel n x) (prel n s) := by
  unfold mrel prel
  rw [h.fld p]
  exact (h.put n _).set (p.put hn (by rw [List.length_append, wn_len, List.length_replicate])) 7 n
theorem BYv.rel {s : PgS} {n : Int} (h : BYv (gpg s)) : BYv (gpg (prel n s)) := by
  unfold prel; rw [gpg_set, gpg_pwr]
  exact (h.put n ((wn_byt 4 _).app (Byt.rep (by decide)))).set 7 n
/-- the crash: the model and the pager anew, but for the head's count -/
theorem gs_nk : ∀ {gs : List (List (Int × List Int))} {m : List (Int × List Int)}, nkeys m → nkeys (gs.foldl puts m)
  | [], _, h => h
  | g :: gs, m, h => gs_nk (gs := gs) (by
    unfold puts
    clear gs_nk
    induction g generalizing m with
    | nil => exact h
    | cons q g ih => exact ih _ (aput_nk h))
theorem RX.init {k i : Nat} {x : MS} {s : PgS} {gs : List (List (Int × List Int))} (h : RX x s) (p : PSt k i s gs) (hk : k ≤ 60) (hi : i ≤ 60) : RX (if 0 < x.log.length then mchk { x with dirty := [] } else { x with dirty := [] }) (pini1 gs (dCrash [] 0 s.dev)).1 := by
  have ic := (p.init hk hi).1
  have el : x.log.length = (clog (dCrash [] 0 s.dev)).length := by rw [ic, h.lg, p.lg]
  have n1 := p.n1
  have P0 : PSt k i (pini0 gs (dCrash [] 0 s.dev)) gs := by
    refine ⟨rfl, rfl, rfl, p.lg, p.gd, fun n => rfl, gs_zc (fun q hq => (by cases hq)) p.gd, ?_, fun q hq => (by cases hq), by show _ + 0 ≤ k; omega, ?_, ?_, p.n4⟩
    · show Zc ((s.dev.writes.zip []).foldl dFate s.dev.pages)
      rw [List.zip_nil_right]; exact p.pz
    · have := gs_len gs []
      show (gs.foldl puts []).length ≤ _
      simpa using this
    · show ((s.dev.writes.zip ([] : List Int)).foldl dFate s.dev.pages).length ≤ _
      rw [List.zip_nil_right]; exact p.n3
  have R0 : RX { x with dirty := [] } (pini0 gs (dCrash [] 0 s.dev)) := by
    refine ⟨rfl, fun n => (h.si n).trans (p.cv n), fun n => ?_, h.lg, h.st, h.n1, gs_nk List.nodup_nil, h.n3, by show nkeys ((s.dev.writes.zip []).foldl dFate s.dev.pages); rw [List.zip_nil_right]; exact h.n4⟩
    show aget x.disk n = aget ((s.dev.writes.zip []).foldl dFate s.dev.pages) n
    rw [List.zip_nil_right]; exact h.dk n
  unfold pini1
  rw [← el]
  split
  · exact R0.chk P0
  · exact R0
section
variable {P : Program} {w : World} {K : PySem.W.Frag} {mg : Str → Option Value} {base : Heap} {c : Cl}
theorem PSt.clog' {k i : Nat} {s : PgS} {gs : List (List (Int × List Int))} (h : PSt k i s gs) : clog s.dev = s.dev.log := by unfold NV.clog; rw [h.st]; rfl
theorem PSt.pgz3 {k i : Nat} {s : PgS} {gs : List (List (Int × List Int))} (h : PSt k i s gs) (hk : k ≤ 63) (hi : i ≤ 60) : PgZ s := by
  have l := log_len h.gd
  have := h.n1; have := h.n2; have := h.n3; have := h.n4
  exact ⟨by rw [h.w]; exact Nat.zero_le _, by rw [h.w]; show _ + 0 ≤ _; omega, by rw [h.lg, h.st]; show _ + 0 ≤ _; omega, fun q hq => Nat.le_of_eq (h.pz q hq), by rw [h.w]; exact fun q hq => (by cases hq), by omega, by omega, h.cz, h.dz⟩
def sp__law_same (c : Cl) : Sp := fun vs H Q _ => ∃ (q p m t : Addr) (O Od O2 : Addr → Prop) (s : PgS) (x : MS) (tk : List Int) (k i : Nat) (gs : List (List (Int × List Int))), vs = [.ref q, .ref p, .ref m, .ref t] ∧ PagAt c H p q O Od s ∧ MdAt H m O2 x ∧ RX x s ∧ PSt k i s gs ∧ k ≤ 63 ∧ i ≤ 60 ∧ H t = some (.lst (tk.map V.int)) ∧ tk.length ≤ 1000 ∧ ∀ H', Kp F0 H H' → Q (.bl true) H'
theorem ok__law_same (T : Txt K mg c) : GF P w K mg base CX0 4 "_law_same" (sp__law_same c) := by
  obtain ⟨f, fd, F, gm⟩ := T.f__law_same
  have tc_Device := T.cl_Device; have tn_Device_pages := T.n_Device_pages; have tn_Device_page_writes := T.n_Device_page_writes; have tn_Device_durable_log := T.n_Device_durable_log; have tn_Device_log_steps := T.n_Device_log_steps; have tn_Device_done := T.n_Device_done; have tn_Device_most := T.n_Device_most
  have tc_Pager := T.cl_Pager; have tn_Pager_device := T.n_Pager_device; have tn_Pager_committed := T.n_Pager_committed; have tn_Pager_dirty := T.n_Pager_dirty
  refine ⟨f, fd, ["_law_device", "_law_pager", "_law_model", "_law_used"], F.ok sc__law_same ?_ (fun cdv A outer s0 H vs Q E hr h => ?_), gm, F.kp, (F.binds (ps := ["_law_device", "_law_pager", "_law_model", "_law_used"]) fun _ _ _ _ _ _ us hl => match us, hl with | [_, _, _, _], _ => rfl)⟩
  · rintro vs H Q E ⟨_, _, _, _, _, _, _, _, _, _, _, _, _, rfl, _⟩
    rfl
  · obtain ⟨q, p, m, t, O, Od, O2, s, x, tk, kk, i, gs, rfl, hP, hM, rx, ps, hk, hi, ht, lt, k⟩ := h
    obtain ⟨⟨dx, a1, a2, k1, k2, DP⟩, _⟩ := id hP
    obtain ⟨⟨dz, c1, c2, c3, c4, kvs, ws, DD⟩, _⟩ := id DP.dv
    obtain ⟨⟨b1, b2, b3, l, m1, m2, m3, DM⟩, _⟩ := id hM
    have hp := DP.o
    have hq := DD.o
    have hm := DM.o
    have pz := ps.pgz3 hk hi
    refine ⟨_, (pss_cons (ps_if (PW.pt (pw_or (pt_cmpR (r := rNeD K) (op_neD hr.units) (pe_gm0 T.cl_Device (ok_Device_log T) (pv 0) (hr.mono (by decide)) pass0S) (pe_dget (hu_of hr) (pv 2) pe_str (fun _ _ => rfl)) (nomark _)) (pw_or (pt_cmpR op_ne (pe_gm0 T.cl_Device (ok_Device_steps T) (pv 0) (hr.mono (by decide)) pass0S) (pe_dget (hu_of hr) (pv 2) pe_str (fun _ _ => rfl)) (nomark _)) (pw_or1 (pt_cmpR (r := rNeD K) (op_neD hr.units) (pe_gm0 T.cl_Device (ok_Device_pending T) (pv 0) (hr.mono (by decide)) pass0S) (pe_tup (pa_cons pe_int (pa_cons pe_int pa_nil))) (nomark _)))))) (pss_one (ps_ret pe_bl)) pss_nil)
      (pss_cons (ps_for PassesOwn.never rfl (pi_listK rfl (pe_op op_cat (pv 3) (pe_lst (pa_cons pe_int pa_nil)))) (pg_name (i := 4) sc__law_same.nd rfl (Or.inl rfl)) (pss_cons (ps_if (pt_cmpR (r := rNeD K) (op_neD hr.units) (pe_gm T.cl_Device (ok_Device_page T) (pv 0) (hr.mono (by decide)) pass0S (pa_cons (pv 4) pa_nil)) (pe_dget2 (hu_of hr) (pe_dget (hu_of hr) (pv 2) pe_str (fun _ _ => rfl)) (pv 4) (pe_op op_rep (pe_lst (pa_cons pe_int pa_nil)) pe_int) ⟨rfl, rfl, rfl, rfl⟩) (nomark _)) (pss_one (ps_ret pe_bl)) pss_nil)
      (pss_one (ps_if (pt_cmpR (r := rNeD K) (op_neD hr.units) (pe_gm T.cl_Pager (ok_Pager_read T) (pv 1) (hr.mono (by decide)) pass0S (pa_cons (pv 4) pa_nil)) (pe_g (ok__law_page T) (hr.mono (by decide)) pass0S (pa_cons (pv 2) (pa_cons (pv 4) pa_nil))) (nomark _)) (pss_one (ps_ret pe_bl)) pss_nil))))
      (pss_one (ps_ret pe_bl)))), ?_⟩
    walk_at "cx"
    walk_at "rd"
    refine ⟨q, Od, s.dev, rfl, DP.dv, pz.sml, fun l1 H1 hl1 kk1 e1 => ?_⟩
    have hm1 := kk1.get hm id
    walk_at "rd"
    refine x_neLI (SqL.of e1) (SqL.of (kk1.get DM.lg.1 id)) ?_
    rw [decide_eq_true (by rw [ps.clog', rx.lg])]
    have hq1 := kk1.get hq id
    walk_at "rd"
    refine ⟨q, Od, s.dev, rfl, DP.dv.same kk1, ?_⟩
    walk_at "rd"
    rw [decide_eq_true rx.st.symm]
    walk_at "rd"
    refine ⟨q, Od, s.dev, rfl, DP.dv.same kk1, fun t1 H2 kk2 e2 => ?_⟩
    walk_at "rd"
    refine x_newT fun t2 H3 ht2 kk3 e3 => ?_
    refine x_neTI (ns := [(s.dev.writes.length : Int), (s.dev.steps.length : Int)]) (ms := [0, 0]) (SqT.of (kk3.tup e2)) (SqT.of e3) ?_
    rw [ps.w, ps.st, decide_eq_true (by simp)]
    have k03 : Kp F0 H H3 := (kk1.trans kk2 fun _ z => z.elim).trans kk3 fun _ z => z.elim
    walk_at "rd"
    refine x_newL fun z1 H4 hz1 k4 e4 => ?_
    walk_at "rd"
    refine x_catL (k4.get (k03.get ht id) id) e4 (by rw [List.length_map, sizeLine_eq]; simp only [List.length_singleton]; omega) fun z2 H5 hz2 k5 e5 => ?_
    have k05 : Kp F0 H H5 := (k03.trans k4 fun _ z => z.elim).trans k5 fun _ z => z.elim
    have e5' : H5 z2 = some (.lst ((tk ++ [0]).map V.int)) := by rw [e5, List.map_append]; rfl
    walk_at "rd"
    refine wfor (Wk.list (xs := (tk ++ [0]).map V.int)) (fun j σ H' => ∃ u, σ = [some (.ref q), some (.ref p), some (.ref m), some (.ref t), u] ∧ Kp F0 H H' ∧ Kp F0 H5 H')
      ⟨none, rfl, k05, Kp.refl _⟩ (fun j σ H' ⟨_, _, _, kk⟩ => SqL.of (kk.get e5' id)) ?_ ?_
    · rintro j y σ H6 ex ⟨u, rfl, kk6, kk56⟩
      obtain ⟨n, en, rfl⟩ := getE' ex
      have hq6 := kk6.get hq id
      have D6 := DM.same kk6
      walk_at "rd"
      refine ⟨q, Od, s.dev, n, rfl, DP.dv.same kk6, fun b H7 hb k7 e7 => ?_⟩
      have D7 := D6.same k7
      have hm7 := D7.o
      have h17 := D7.h1
      walk_at "rd"
      refine x_newL fun y0 H8 hy0 k8 e8 => ?_
      walk_at "rd"
      refine x_rep e8 (by decide) (by decide) fun y1 H9 hy1 k9 e9 => ?_
      have e9' : H9 y1 = some (.lst (zeros.map V.int)) := by rw [e9]; unfold zeros; rw [List.map_replicate]; rfl
      have k79 : Kp F0 H7 H9 := k8.trans k9 fun _ z => z.elim
      have h19 := k79.get h17 id
      walk_at "rd"
      obtain ⟨a, ea, ha⟩ : ∃ a, (valV m1 (.inl n)).getD (.ref y1) = .ref a ∧ H9 a = some (.lst ((cpg s.dev n).map V.int)) := by
        have ec : cpg s.dev n = (aget x.disk n).getD zeros := by
          unfold cpg; rw [ps.w]
          show dpg s.dev n = _
          unfold dpg; rw [rx.dk]
        rw [ec]
        rcases get_pr RPg.key n D7.p1 with ⟨g1, g2⟩ | ⟨v, ds, g1, g2, _, a, ev, im⟩
        · exact ⟨y1, by rw [g1]; rfl, by rw [g2]; exact e9'⟩
        · exact ⟨a, by rw [g1]; exact ev, by rw [g2]; exact k79.get im.1 id⟩
      rw [ea]
      refine x_neLI (SqL.of (k79.get e7 id)) (SqL.of ha) ?_
      rw [decide_eq_true (rfl : cpg s.dev n = cpg s.dev n)]
      have k69 : Kp F0 H6 H9 := k7.trans k79 fun _ z => z.elim
      have k09 : Kp F0 H H9 := kk6.trans k69 fun _ z => z.elim
      have hp9 := k09.get hp id
      walk_at "rd"
      refine ⟨p, q, O, Od, s, n, rfl, hP.same k09, fun b2 H10 hb2 k10 e10 => ?_⟩
      walk_at "rd"
      refine ⟨m, O2, x, n, rfl, (hM.off k09 fun _ z => z.elim).off k10 fun _ z => z.elim, fun b3 H11 hb3 k11 e11 => ?_⟩
      refine x_neLI (SqL.of (k11.get e10 id)) (SqL.of e11) ?_
      rw [decide_eq_true (by rw [rx.page ps])]
      walk_at "rd"
      have k911 : Kp F0 H9 H11 := k10.trans k11 fun _ z => z.elim
      exact ⟨_, rfl, k09.trans k911 fun _ z => z.elim, kk56.trans (k69.trans k911 fun _ z => z.elim) fun _ z => z.elim⟩
    · rintro σ H6 ⟨u, rfl, kk6, kk56⟩
      walk_at "rd"
      exact k H6 kk6
end
/-- all that stands between two turns (k19) -/
structure LY (c : Cl) (K : PySem.W.Frag) (H : Hp) (st sc p q m t u : Addr) (O Od O2 : Addr → Prop) (s : PgS) (x : MS) (tk kp : List Int) : Prop where
  dr : Dr K H st sc
  pg : PagAt c H p q O Od s
  md : MdAt H m O2 x
  ht : H t = some (.lst (tk.map V.int))
  hu : H u = some (.lst (kp.map V.int))
  s1 : ¬ O st
  s2 : ¬ O2 st
  t1 : ¬ O t
  t2 : ¬ O2 t
  u1 : ¬ O u
  u2 : ¬ O2 u
  ts : t ≠ st
  us : u ≠ st
  ut : u ≠ t
  dj : ∀ b, O b → ¬ O2 b
section
variable {c : Cl} {K : PySem.W.Frag} {H H' : Hp} {st sc p q m t u : Addr} {O O' Od Od' O2 O2' F : Addr → Prop} {s s' : PgS} {x x' : MS} {tk tk' kp : List Int}
theorem Stp.dj2 {O O' G : Addr → Prop} {H H' : Hp} (s : Stp O O' H H') (t : ∀ b, G b → ∃ o, H b = some o) (h : ∀ b, O b → ¬ G b) : ∀ b, O' b → ¬ G b := fun b o g => by
  rcases s.gr b o with z | z
  · exact h b z g
  · obtain ⟨u, hu⟩ := t b g
    rw [z] at hu; cases hu
theorem LY.off (h : LY c K H st sc p q m t u O Od O2 s x tk kp) (k : Kp F H H') (dr : Dr K H' st sc) (n1 : ∀ b, F b → ¬ O b) (n2 : ∀ b, F b → ¬ O2 b) (n3 : ¬ F t) (n4 : ¬ F u) : LY c K H' st sc p q m t u O Od O2 s x tk kp :=
  ⟨dr, h.pg.off k n1, h.md.off k n2, k.get h.ht n3, k.get h.hu n4, h.s1, h.s2, h.t1, h.t2, h.u1, h.u2, h.ts, h.us, h.ut, h.dj⟩
theorem LY.pure (h : LY c K H st sc p q m t u O Od O2 s x tk kp) (k : Kp F0 H H') : LY c K H' st sc p q m t u O Od O2 s x tk kp := h.off k (h.dr.kp k id) (fun _ z => z.elim) (fun _ z => z.elim) id id
theorem LY.draw (h : LY c K H st sc p q m t u O Od O2 s x tk kp) (k : Kp (F1 st) H H') (dr : Dr K H' st sc) : LY c K H' st sc p q m t u O Od O2 s x tk kp :=
  h.off k dr (fun b z => by rw [z]; exact h.s1) (fun b z => by rw [z]; exact h.s2) h.ts h.us
theorem LY.pager (h : LY c K H st sc p q m t u O Od O2 s x tk kp) (P : PagAt c H' p q O' Od' s') (w : Stp O O' H H') : LY c K H' st sc p q m t u O' Od' O2 s' x tk kp := by
  obtain ⟨_, hst⟩ := h.dr.trk
  exact ⟨h.dr.kp w.kp h.s1, P, h.md.off w.kp h.dj, w.kp.get h.ht h.t1, w.kp.get h.hu h.u1, w.kp0 hst h.s1, h.s2, w.kp0 h.ht h.t1, h.t2, w.kp0 h.hu h.u1, h.u2, h.ts, h.us, h.ut, w.dj2 h.md.2 h.dj⟩
theorem LY.model (h : LY c K H st sc p q m t u O Od O2 s x tk kp) (D : MdAt H' m O2' x') (w : Stp O2 O2' H H') : LY c K H' st sc p q m t u O Od O2' s x' tk kp := by
  obtain ⟨_, hst⟩ := h.dr.trk
  exact ⟨h.dr.kp w.kp h.s2, h.pg.off w.kp fun b z y => h.dj b y z, D, w.kp.get h.ht h.t2, w.kp.get h.hu h.u2, h.s1, w.kp0 hst h.s2, h.t1, w.kp0 h.ht h.t2, h.u1, w.kp0 h.hu h.u2, h.ts, h.us, h.ut, fun b z y => w.dj2 h.pg.2 (fun b z y => h.dj b y z) b y z⟩
theorem LY.taken (h : LY c K H st sc p q m t u O Od O2 s x tk kp) (k : Kp (F1 t) H H') (e : H' t = some (.lst (tk'.map V.int))) : LY c K H' st sc p q m t u O Od O2 s x tk' kp :=
  ⟨h.dr.kp k h.ts.symm, h.pg.off k fun b z => by rw [z]; exact h.t1, h.md.off k fun b z => by rw [z]; exact h.t2, e, k.get h.hu h.ut, h.s1, h.s2, h.t1, h.t2, h.u1, h.u2, h.ts, h.us, h.ut, h.dj⟩
end
theorem first_at : ∀ {l : List Int} {n : Int}, n ∈ l → ∃ j : Nat, l[j]? = some n ∧ ∀ m : Nat, m < j → l[m]? ≠ some n
  | x :: l, n, h => by
    by_cases e : x = n
    · exact ⟨0, by rw [e]; rfl, fun m hm => by omega⟩
    · have h' : n ∈ l := by
        rcases List.mem_cons.mp h with y | y
        · exact absurd y.symm e
        · exact y
      obtain ⟨j, hj, hm⟩ := first_at h'
      refine ⟨j + 1, by rw [List.getElem?_cons_succ]; exact hj, fun m hm' => ?_⟩
      cases m with
      | zero => simp [e]
      | succ m => rw [List.getElem?_cons_succ]; exact hm m (by omega)
theorem at_last {xs : List V} {y : V} : atI (xs ++ [y]) (-1) = some y := by
  unfold atI ixN
  rw [if_neg (by decide), if_pos (by rw [List.length_append, List.length_singleton]; omega)]
  show (xs ++ [y])[(-1 + ((xs ++ [y]).length : Int)).toNat]? = some y
  rw [show (-1 + ((xs ++ [y]).length : Int)).toNat = xs.length by rw [List.length_append, List.length_singleton]; omega]
  simp
section
variable {P : Program} {w : World} {K : PySem.W.Frag} {mg : Str → Option Value} {base : Heap} {c : Cl}
def sp__law_change (c : Cl) (K : PySem.W.Frag) : Sp := fun vs H Q _ => ∃ (st sc p q m t u : Addr) (O Od O2 : Addr → Prop) (s : PgS) (x : MS) (tk kp : List Int) (k i : Nat) (gs : List (List (Int × List Int))), vs = [.ref st, .ref sc, .ref p, .ref m, .ref t] ∧ LY c K H st sc p q m t u O Od O2 s x tk kp ∧ RX x s ∧ PSt k i s gs ∧ BYv (gpg s) ∧
  (∀ n ∈ tk, 0 ≤ n ∧ n < 256 ^ 4) ∧ tk.length ≤ 1000 ∧ k ≤ 900 ∧ ∀ H' O O2 s' x' tk', LY c K H' st sc p q m t u O Od O2 s' x' tk' kp → RX x' s' → PSt (k + 2) i s' gs → BYv (gpg s') → bv s' = bv s → (∀ n ∈ tk', 0 ≤ n ∧ n < 256 ^ 4) → tk'.length ≤ tk.length + 1 → Q (.bl true) H'
theorem ok__law_change (T : Txt K mg c) : GF P w K mg base CX0 6 "_law_change" (sp__law_change c K) := by
  obtain ⟨f, fd, F, gm⟩ := T.f__law_change
  have tc_Pager := T.cl_Pager; have tn_Pager_device := T.n_Pager_device; have tn_Pager_committed := T.n_Pager_committed; have tn_Pager_dirty := T.n_Pager_dirty
  refine ⟨f, fd, ["_law_state", "_law_script", "_law_pager", "_law_model", "_law_taken_here"], F.ok sc__law_change ?_ (fun cdv A outer s0 H vs Q E hr h => ?_), gm, F.kp, (F.binds (ps := ["_law_state", "_law_script", "_law_pager", "_law_model", "_law_taken_here"]) fun _ _ _ _ _ _ us hl => match us, hl with | [_, _, _, _, _], _ => rfl)⟩
  · rintro vs H Q E ⟨_, _, _, _, _, _, _, _, _, _, _, _, _, _, _, _, _, rfl, _⟩
    rfl
  · obtain ⟨st, sc, p, q, m, t, u, O, Od, O2, s, x, tk, kp, kk, i, gs, rfl, Y, rx, ps, by', tb, lt, hk, k⟩ := h
    have pn := ps.n1
    have md256 : ∀ n, (mpage x n).length = 256 := fun n => by rw [rx.page ps]; exact ps.z n
    have dd : x.dirty.length = s.dir.length := by rw [rx.di]
    refine ⟨_, (pss_cons (ps_set (i := 5) sc__law_change.nd rfl (Or.inl rfl) (pe_g (ok__law_draw T) (hr.mono (by decide)) pass0S (pa_cons (pv 0) (pa_cons (pv 1) (pa_cons pe_int pa_nil)))))
      (pss_cons (ps_if (pt_cmpR op_eq (pv 5) pe_int (nomark _)) (pss_cons (ps_expr (pe_kBM rfl (pe_bm PySem.F.plainAttrs_list PySem.F.slot_list_append PySem.F.type_list_append mt_append (pv 4) (pa_cons (pe_g (ok__law_taken T) (hr.mono (by decide)) pass0S (pa_cons (pv 3) pa_nil)) pa_nil))))
      (pss_one (ps_ret (pe_cmpR op_eq (pe_gm0 T.cl_Pager (ok_Pager_allocate T) (pv 2) (hr.mono (by decide)) pass0S) (pe_ix (r := rIxL K) ix_list (pv 4) (pe_un un_neg pe_int) (fun _ _ => rfl)) (nomark _))))) pss_nil)
      (pss_cons (ps_if (pt_cmpR op_eq (pv 5) pe_int (nomark _)) (pss_cons (ps_set (i := 6) sc__law_change.nd rfl (Or.inl rfl) (pe_g (ok__law_draw T) (hr.mono (by decide)) pass0S (pa_cons (pv 0) (pa_cons (pv 1) (pa_cons pe_int pa_nil)))))
      (pss_cons (ps_set (i := 7) sc__law_change.nd rfl (Or.inl rfl) (pe_ix (r := rIxL K) ix_list (pe_lst (pa_cons (pe_g (ok__law_number T) (hr.mono (by decide)) pass0S (pa_cons (pv 3) (pa_cons (pv 6) pa_nil))) (pa_cons (pe_g (ok__law_draw T) (hr.mono (by decide)) pass0S (pa_cons (pv 0) (pa_cons (pv 1) (pa_cons pe_int pa_nil)))) pa_nil))) (pe_g (ok__law_draw T) (hr.mono (by decide)) pass0S (pa_cons (pv 0) (pa_cons (pv 1) (pa_cons pe_int pa_nil)))) (fun _ _ => rfl)))
      (pss_cons (ps_expr (pe_g (ok__law_set T) (hr.mono (by decide)) pass0S (pa_cons (pv 3) (pa_cons (pv 6) (pa_cons (pv 7) pa_nil)))))
      (pss_one (ps_ret (pe_and (pe_cmpR o_isN (pe_gm T.cl_Pager (ok_Pager_set_field T) (pv 2) (hr.mono (by decide)) pass0S (pa_cons (pv 6) (pa_cons (pv 7) pa_nil))) pe_non (nomark _)) (pe_one (pe_cmpR op_eq (pe_gm T.cl_Pager (ok_Pager_field T) (pv 2) (hr.mono (by decide)) pass0S (pa_cons (pv 6) pa_nil)) (pv 7) (nomark _))))))))) pss_nil)
      (pss_cons (ps_if (pt_cmpR op_gt (pe_callB (r := rLenQ K) c_len (by rfl) T.z_len PySem.boot_len (pa_cons (pv 4) pa_nil)) pe_int (nomark _)) (pss_cons (ps_set (i := 7) sc__law_change.nd rfl (Or.inl rfl) (pe_ix (r := rIxL K) ix_list (pv 4) (pe_g (ok__law_draw T) (hr.mono (by decide)) pass0S (pa_cons (pv 0) (pa_cons (pv 1) (pa_cons (pe_callB (r := rLenQ K) c_len (by rfl) T.z_len PySem.boot_len (pa_cons (pv 4) pa_nil)) pa_nil)))) (fun _ _ => rfl)))
      (pss_cons (ps_if (pt_cmpR op_eq (pv 5) pe_int (nomark _)) (pss_cons (ps_set (i := 8) sc__law_change.nd rfl (Or.inl rfl) (pe_op op_cat (pe_op op_rep (pe_lst (pa_cons (pe_g (ok__law_draw T) (hr.mono (by decide)) pass0S (pa_cons (pv 0) (pa_cons (pv 1) (pa_cons pe_int pa_nil)))) pa_nil)) pe_int) (pe_op op_rep (pe_lst (pa_cons (pe_g (ok__law_draw T) (hr.mono (by decide)) pass0S (pa_cons (pv 0) (pa_cons (pv 1) (pa_cons pe_int pa_nil)))) pa_nil)) pe_int)))
      (C8.pss_cut (ps_if (pt_cmpR op_eq (pe_g (ok__law_draw T) (hr.mono (by decide)) pass0S (pa_cons (pv 0) (pa_cons (pv 1) (pa_cons pe_int pa_nil)))) pe_int (nomark _)) (pss_one (ps_set (i := 8) sc__law_change.nd rfl (Or.inl rfl) (pe_g (ok__law_page T) (hr.mono (by decide)) pass0S (pa_cons (pv 3) (pa_cons (pv 7) pa_nil))))) pss_nil)
      (pss_cons (ps_expr (pe_g (ok__law_write T) (hr.mono (by decide)) pass0S (pa_cons (pv 3) (pa_cons (pv 7) (pa_cons (pv 8) pa_nil)))))
      (pss_one (ps_ret (pe_and (pe_cmpR o_isN (pe_gm T.cl_Pager (ok_Pager_write T) (pv 2) (hr.mono (by decide)) pass0S (pa_cons (pv 7) (pa_cons (pe_callTy (r := rLstQ K) c_list (by rfl) T.z_list (by decide +kernel) (pa_cons (pv 8) pa_nil)) pa_nil))) pe_non (nomark _)) (pe_one (pe_cmpR (r := rEqD K) (op_eqD hr.units) (pe_gm T.cl_Pager (ok_Pager_read T) (pv 2) (hr.mono (by decide)) pass0S (pa_cons (pv 7) pa_nil)) (pv 8) (nomark _))))))))) pss_nil)
      (pss_cons (ps_expr (pe_kBM rfl (pe_bm PySem.F.plainAttrs_list PySem.F.slot_list_remove PySem.F.type_list_remove mt_remove (pv 4) (pa_cons (pv 7) pa_nil))))
      (pss_cons (ps_expr (pe_g (ok__law_write T) (hr.mono (by decide)) pass0S (pa_cons (pv 3) (pa_cons (pv 7) (pa_cons (pe_op op_cat (pe_g (ok__law_bytes T) (hr.mono (by decide)) pass0S (pa_cons (pe_g (ok__law_number T) (hr.mono (by decide)) pass0S (pa_cons (pv 3) (pa_cons pe_int pa_nil))) pa_nil)) (pe_op op_rep (pe_lst (pa_cons pe_int pa_nil)) pe_int)) pa_nil)))))
      (pss_cons (ps_expr (pe_g (ok__law_set T) (hr.mono (by decide)) pass0S (pa_cons (pv 3) (pa_cons pe_int (pa_cons (pv 7) pa_nil)))))
      (pss_one (ps_ret (pe_cmpR o_isN (pe_gm T.cl_Pager (ok_Pager_release T) (pv 2) (hr.mono (by decide)) pass0S (pa_cons (pv 7) pa_nil)) pe_non (nomark _))))))))) pss_nil)
      (pss_one (ps_ret pe_bl)))))), ?_⟩
    walk_at "cx"
    walk_at "rd"
    refine ⟨st, sc, 4, rfl, by decide, by decide, Y.dr, fun kd H1 d0 d1 dr1 k1 => ?_⟩
    have Y1 := Y.draw k1 dr1
    have ht1 := Y1.ht
    walk_at "rd"
    refine ite_dec (fun e0 => ?_) fun e0 => ?_
    · walk_at "rd"
      refine ⟨m, O2, x, rfl, Y1.md, md256, by omega, fun H2 O3 M2 s2 => ?_⟩
      have Y2 := Y1.model M2 s2
      walk_at "rd"
      refine x_app Y2.ht (by rw [List.length_map]; omega) fun H3 e3 k3 => ?_
      have Y3 := Y2.taken (tk' := tk ++ [(mtak x).2]) k3 (by rw [e3, List.map_append]; rfl)
      obtain ⟨⟨dx, a1, a2, y1, y2, DP⟩, _⟩ := id Y3.pg
      have ho := DP.o
      have rt := rx.tak ps
      walk_at "rd"
      refine ⟨p, q, O, Od, s, rfl, Y3.pg, by omega, ps.z 0, fun H4 O4 P4 t4 => ?_⟩
      have Y4 := Y3.pager P4 t4
      have ht4 := Y4.ht
      walk_at "rd"
      refine x_ixL (v := .int (mtak x).2) (SqL.of ht4) (by rw [List.map_append]; exact at_last) ?_
      walk_at "rd"
      rw [decide_eq_true rt.2.symm]
      refine k H4 O4 O3 _ _ _ Y4 rt.1 (ps.alloc by') by'.alloc (bv_alloc s) (fun n hn => ?_) (by rw [List.length_append]; exact Nat.le_refl _)
      rcases List.mem_append.mp hn with hn | hn
      · exact tb n hn
      · rw [List.mem_singleton.mp hn, rt.2]; exact palloc_b by'
    · walk_at "rd"
      refine ite_dec (fun e1 => ?_) fun e1 => ?_
      · walk_at "rd"
        refine ⟨st, sc, 6, rfl, by decide, by decide, Y1.dr, fun kn H2 a0 a1 dr2 k2 => ?_⟩
        obtain ⟨kn, rfl⟩ := Int.eq_ofNat_of_zero_le a0
        have Y2 := Y1.draw k2 dr2
        walk_at "rd"
        refine ⟨m, O2, x, kn, rfl, by omega, Y2.md, by rw [md256]; omega, fun H3 k3 => ?_⟩
        have Y3 := Y2.pure k3
        walk_at "rd"
        refine ⟨st, sc, 4294967296, rfl, by decide, by decide, Y3.dr, fun v2 H4 b0 b1 dr4 k4 => ?_⟩
        have Y4 := Y3.draw k4 dr4
        obtain ⟨_, hst4⟩ := Y4.dr.trk
        walk_at "rd"
        refine x_newL fun z1 H5 hz1 k5 e5 => ?_
        have Y5 := Y4.pure k5
        walk_at "rd"
        refine ⟨st, sc, 2, rfl, by decide, by decide, Y5.dr, fun y H6 c0 c1 dr6 k6 => ?_⟩
        have Y6 := Y5.draw k6 dr6
        have e6 := k6.get e5 (ne_of_none hst4 hz1).symm
        have fx : mfld x kn = vf (gpg s) kn := by rw [rx.fld ps]; rfl
        obtain ⟨v, v0, v1, hv⟩ : ∃ v : Int, 0 ≤ v ∧ v < 256 ^ 4 ∧ atI [V.int (mfld x kn), .int v2] y = some (.int v) := by
          rcases (by omega : y = 0 ∨ y = 1) with rfl | rfl
          · exact ⟨mfld x kn, by rw [fx]; exact (by'.fld kn).1, by rw [fx]; exact (by'.fld kn).2, rfl⟩
          · exact ⟨v2, b0, by omega, rfl⟩
        walk_at "rd"
        refine ⟨m, O2, x, kn, v, rfl, by omega, Y6.md, by rw [md256]; omega, by rw [md256]; decide, by omega, fun H7 O3 M7 s7 => ?_⟩
        have Y7 := Y6.model M7 s7
        obtain ⟨⟨dx, a1, a2, y1, y2, DP⟩, _⟩ := id Y7.pg
        have ho := DP.o
        walk_at "rd"
        refine ⟨p, q, O, Od, s, kn, v, rfl, Y7.pg, by omega, by rw [ps.z]; omega, by rw [ps.z]; decide, fun H8 O8 P8 t8 => ?_⟩
        have Y8 := Y7.pager P8 t8
        obtain ⟨⟨dx, a1, a2, y1, y2, DP8⟩, _⟩ := id Y8.pg
        have ho8 := DP8.o
        walk_at "rd"
        refine ⟨p, q, O8, Od, setf kn v s, kn, rfl, by omega, Y8.pg, fun H9 k9 => ?_⟩
        have ev : fld (setf kn v s) kn = v := by rw [fld_vf, gpg_set, vset_vf v0 v1 (by rw [ps.z]; omega), if_pos rfl]
        rw [ev]
        walk_at "rd"
        rw [decide_eq_true (rfl : v = v)]
        exact k H9 O8 O3 _ _ _ (Y8.pure k9) (rx.set ps kn v) ((ps.set (by omega)).le (by omega) (Nat.le_refl _)) (by rw [gpg_set]; exact by'.set kn v) rfl tb (by omega)
      · walk_at "rd"
        rw [List.length_map]
        refine ite_dec (fun et => ?_) fun et => ?_
        · walk_at "rd"
          rw [List.length_map]
          refine ⟨st, sc, _, rfl, by omega, by omega, Y1.dr, fun jj H2 a0 a1 dr2 k2 => ?_⟩
          have Y2 := Y1.draw k2 dr2
          obtain ⟨n, hn⟩ : ∃ n, tk[jj.toNat]? = some n := ⟨_, List.getElem?_eq_getElem (by omega)⟩
          have nt := List.mem_of_getElem? hn
          have nb := tb n nt
          refine x_ixL (v := .int n) (SqL.of Y2.ht) (atI_at jj.toNat (by omega) (by rw [List.getElem?_map, hn]; rfl)) ?_
          walk_at "rd"
          refine ite_dec (fun e2 => ?_) fun e2 => ?_
          · walk_at "rd"
            refine ⟨st, sc, 256, rfl, by decide, by decide, Y2.dr, fun v1 H3 b0 b1 dr3 k3 => ?_⟩
            have Y3 := Y2.draw k3 dr3
            walk_at "rd"
            refine x_newL fun z1 H4 hz1 k4 e4 => ?_
            have Y4 := Y3.pure k4
            walk_at "rd"
            refine x_rep e4 (by decide) (by decide) fun z2 H5 hz2 k5 e5 => ?_
            have Y5 := Y4.pure k5
            walk_at "rd"
            refine ⟨st, sc, 256, rfl, by decide, by decide, Y5.dr, fun v2 H6 c0 c1 dr6 k6 => ?_⟩
            have Y6 := Y5.draw k6 dr6
            obtain ⟨_, hst5⟩ := Y5.dr.trk
            obtain ⟨_, hst4⟩ := Y4.dr.trk
            have e6 := k6.get e5 (ne_of_none hst4 hz2).symm
            walk_at "rd"
            refine x_newL fun z3 H7 hz3 k7 e7 => ?_
            have Y7 := Y6.pure k7
            walk_at "rd"
            refine x_rep e7 (by decide) (by decide) fun z4 H8 hz4 k8 e8 => ?_
            have Y8 := Y7.pure k8
            have e68 := k8.get (k7.get e6 id) id
            walk_at "rd"
            refine x_catL e68 e8 (by rw [List.length_replicate, List.length_replicate]; decide) fun l H9 hl k9 e9 => ?_
            have Y9 := Y8.pure k9
            obtain ⟨_, hst8⟩ := Y8.dr.trk
            walk_at "rd"
            refine x_cut (fun σ' H' => ∃ l ds, σ' = [some (.ref st), some (.ref sc), some (.ref p), some (.ref m), some (.ref t), some (.int kd), none, some (.int n), some (.ref l)] ∧ LY c K H' st sc p q m t u O Od O2 s x tk kp ∧ H' l = some (.lst (ds.map V.int)) ∧ ¬ O l ∧ ¬ O2 l ∧ ds.length = 256 ∧ Byt ds) ?_ ?_
            · walk_at "rd"
              refine ⟨st, sc, 3, rfl, by decide, by decide, Y9.dr, fun y H10 d0 d1 dr10 k10 => ?_⟩
              have Y10 := Y9.draw k10 dr10
              walk_at "rd"
              refine ite_dec (fun e3 => ?_) fun e3 => ?_
              · walk_at "rd"
                refine ⟨m, O2, x, n, rfl, Y10.md, fun b H11 hb k11 e11 => ?_⟩
                walk_at "rd"
                exact ⟨b, _, rfl, Y10.pure k11, e11, Y10.pg.fresh hb, Y10.md.fresh hb, md256 n, by rw [rx.page ps]; exact by' n⟩
              · refine ⟨l, List.replicate 128 v1 ++ List.replicate 128 v2, rfl, Y10, ?_, Y8.pg.fresh hl, Y8.md.fresh hl, by rw [List.length_append, List.length_replicate, List.length_replicate], (Byt.rep ⟨b0, b1⟩).app (Byt.rep ⟨c0, c1⟩)⟩
                rw [k10.get e9 (ne_of_none hst8 hl).symm, List.map_append, List.map_replicate, List.map_replicate]; rfl
            · rintro σ' H10 ⟨l, ds, rfl, Y10, el, nl, nl2, lds, bds⟩
              walk_at "rd"
              refine ⟨m, O2, x, n, l, ds, rfl, Y10.md, SqL.of el, by omega, fun H11 O3 M11 s11 => ?_⟩
              have Y11 := Y10.model M11 s11
              have el11 := s11.kp.get el nl2
              obtain ⟨⟨dx, a1, a2, y1, y2, DP⟩, _⟩ := id Y11.pg
              have ho := DP.o
              walk_at "rd"
              refine x_lstL (SqL.of el11) fun l2 H12 hl2 k12 e12 => ?_
              have Y12 := Y11.pure k12
              walk_at "rd"
              refine ⟨p, q, O, Od, s, n, l2, ds, rfl, Y12.pg, SqL.of e12, by omega, fun H13 O13 P13 t13 => ?_⟩
              have Y13 := Y12.pager P13 t13
              have el13 := t13.kp.get (k12.get el11 id) nl
              obtain ⟨⟨dx, a1, a2, y1, y2, DP13⟩, _⟩ := id Y13.pg
              have ho13 := DP13.o
              walk_at "rd"
              refine ⟨p, q, O13, Od, pwr n ds s, n, rfl, Y13.pg, fun b H14 hb k14 e14 => ?_⟩
              have Y14 := Y13.pure k14
              have ev : gpg (pwr n ds s) n = ds := by rw [gpg_pwr]; unfold vput; rw [if_pos rfl]
              walk_at "rd"
              refine x_eqLI (SqL.of e14) (SqL.of (k14.get el13 id)) ?_
              rw [decide_eq_true ev]
              exact k H14 O13 O3 _ _ _ Y14 (rx.put n ds) ((ps.put nb lds).le (by omega) (Nat.le_refl _)) (by rw [gpg_pwr]; exact by'.put n bds) rfl tb (by omega)
          · obtain ⟨j, hj, hjm⟩ := first_at nt
            have ht2 := Y2.ht
            walk_at "rd"
            refine ⟨t, tk, n, j, rfl, rfl, ht2, hj, hjm, ?_⟩
            have k3 : Kp (F1 t) H2 (upd H2 t (.lst ((tk.eraseIdx j).map V.int))) := Kp.put ht2 id
            have Y3 := Y2.taken k3 upd_same
            generalize upd H2 t (.lst ((tk.eraseIdx j).map V.int)) = H3 at k3 Y3
            walk_at "rd"
            refine ⟨m, O2, x, 7, rfl, by decide, Y3.md, by rw [md256]; decide, fun H4 k4 => ?_⟩
            have Y4 := Y3.pure k4
            walk_at "rd"
            refine ⟨_, rfl, fun a1 H5 ha1 k5 e5 => ?_⟩
            have Y5 := Y4.pure k5
            walk_at "rd"
            refine x_newL fun z1 H6 hz1 k6 e6 => ?_
            have Y6 := Y5.pure k6
            walk_at "rd"
            refine x_rep e6 (by decide) (by decide) fun z2 H7 hz2 k7 e7 => ?_
            have Y7 := Y6.pure k7
            walk_at "rd"
            refine x_catL (k7.get (k6.get e5 id) id) e7 (by rw [List.length_map, wn_len, List.length_replicate]; decide) fun l H8 hl k8 e8 => ?_
            have Y8 := Y7.pure k8
            have e8' : H8 l = some (.lst ((wn 4 (mfld x 7) ++ List.replicate 252 0).map V.int)) := by rw [e8, List.map_append, List.map_replicate]; rfl
            refine ⟨m, O2, x, n, l, _, rfl, Y8.md, SqL.of e8', by omega, fun H9 O3 M9 s9 => ?_⟩
            have Y9 := Y8.model M9 s9
            have ld : (wn 4 (mfld x 7) ++ List.replicate 252 0).length = 256 := by rw [List.length_append, wn_len, List.length_replicate]
            have l9 : (mpage { x with dirty := aput x.dirty n (wn 4 (mfld x 7) ++ List.replicate 252 0) } 0).length = 256 := by
              rw [(rx.put n _).page (ps.put nb ld)]; exact (ps.put nb ld).z 0
            have al := aput_len x.dirty n (wn 4 (mfld x 7) ++ List.replicate 252 0)
            walk_at "rd"
            refine ⟨m, O3, { x with dirty := aput x.dirty n (wn 4 (mfld x 7) ++ List.replicate 252 0) }, 7, n, rfl, by decide, Y9.md, by rw [l9]; decide, by rw [l9]; decide, by show (aput x.dirty n (wn 4 (mfld x 7) ++ List.replicate 252 0)).length ≤ _; omega, fun H10 O4 M10 s10 => ?_⟩
            have Y10 := Y9.model M10 s10
            obtain ⟨⟨dx, a1, a2, y1, y2, DP⟩, _⟩ := id Y10.pg
            have ho := DP.o
            walk_at "rd"
            refine ⟨p, q, O, Od, s, n, rfl, Y10.pg, by omega, ps.z 0, fun H11 O11 P11 t11 => ?_⟩
            have Y11 := Y10.pager P11 t11
            walk_at "rd"
            refine k H11 O11 O4 _ _ _ Y11 (rx.rel ps nb) (ps.rel nb) by'.rel rfl (fun a ha => tb a (List.mem_of_mem_eraseIdx ha)) ?_
            rw [List.length_eraseIdx]; split <;> omega
        · walk_at "rd"
          exact k H1 O O2 s x tk Y1 rx (ps.le (by omega) (Nat.le_refl _)) by' rfl tb (by omega)
end
/-- while no pager stands over the device -/
structure LD (c : Cl) (K : PySem.W.Frag) (H : Hp) (st sc q m t u : Addr) (Od O2 : Addr → Prop) (d : DevS) (x : MS) (tk kp : List Int) : Prop where
  dr : Dr K H st sc
  dv : DevAt c H q Od d
  md : MdAt H m O2 x
  ht : H t = some (.lst (tk.map V.int))
  hu : H u = some (.lst (kp.map V.int))
  s1 : ¬ Od st
  s2 : ¬ O2 st
  t1 : ¬ Od t
  t2 : ¬ O2 t
  u1 : ¬ Od u
  u2 : ¬ O2 u
  ts : t ≠ st
  us : u ≠ st
  ut : u ≠ t
  dj : ∀ b, Od b → ¬ O2 b
section
variable {c : Cl} {K : PySem.W.Frag} {H H' H1 : Hp} {st sc p p' q m t t' u u' : Addr} {O O' Od Od' O2 O2' F : Addr → Prop} {d d' : DevS} {s s' : PgS} {x x' : MS} {tk tk' kp : List Int}
theorem LY.dev (h : LY c K H st sc p q m t u O Od O2 s x tk kp) : LD c K H st sc q m t u Od O2 s.dev x tk kp :=
  have o := h.pg.dv.2
  ⟨h.dr, h.pg.dv.1, h.md, h.ht, h.hu, fun z => h.s1 (o _ z), h.s2, fun z => h.t1 (o _ z), h.t2, fun z => h.u1 (o _ z), h.u2, h.ts, h.us, h.ut, fun b z => h.dj b (o b z)⟩
theorem LD.pure (h : LD c K H st sc q m t u Od O2 d x tk kp) (k : Kp F0 H H') : LD c K H' st sc q m t u Od O2 d x tk kp :=
  ⟨h.dr.kp k id, h.dv.same k, h.md.off k fun _ z => z.elim, k.get h.ht id, k.get h.hu id, h.s1, h.s2, h.t1, h.t2, h.u1, h.u2, h.ts, h.us, h.ut, h.dj⟩
theorem LD.step (h : LD c K H st sc q m t u Od O2 d x tk kp) (V : DevAt c H' q Od' d') (w : Stp Od Od' H H') : LD c K H' st sc q m t u Od' O2 d' x tk kp := by
  obtain ⟨_, hst⟩ := h.dr.trk
  exact ⟨h.dr.kp w.kp h.s1, V, h.md.off w.kp h.dj, w.kp.get h.ht h.t1, w.kp.get h.hu h.u1, w.kp0 hst h.s1, h.s2, w.kp0 h.ht h.t1, h.t2, w.kp0 h.hu h.u1, h.u2, h.ts, h.us, h.ut, w.dj2 h.md.2 h.dj⟩
theorem LD.model (h : LD c K H st sc q m t u Od O2 d x tk kp) (D : MdAt H' m O2' x') (w : Stp O2 O2' H H') : LD c K H' st sc q m t u Od O2' d x' tk kp := by
  obtain ⟨_, hst⟩ := h.dr.trk
  exact ⟨h.dr.kp w.kp h.s2, h.dv.off w.kp fun b z y => h.dj b y z, D, w.kp.get h.ht h.t2, w.kp.get h.hu h.u2, h.s1, w.kp0 hst h.s2, h.t1, w.kp0 h.ht h.t2, h.u1, w.kp0 h.hu h.u2, h.ts, h.us, h.ut, fun b z y => w.dj2 h.dv.2 (fun b z y => h.dj b y z) b y z⟩
theorem LD.opened (h : LD c K H st sc q m t u Od O2 d x tk kp) (k : Kp F0 H H1) (hp : H p' = none) (P : PagAt c H' p' q O' Od' s') (w : Stp (fun b => b = p' ∨ Od b) O' H1 H') : LY c K H' st sc p' q m t u O' Od' O2 s' x tk kp := by
  have kz : Kp Od H H' := fun b o hb n => by
    refine w.kp b o (k.get hb id) fun z => ?_
    rcases z with z | z
    · rw [z, hp] at hb; cases hb
    · exact n z
  have no : ∀ b, (∃ o, H b = some o) → ¬ Od b → ¬ O' b := fun b ⟨o, hb⟩ n z => by
    rcases w.gr b z with (y | y) | y
    · rw [y, hp] at hb; cases hb
    · exact n y
    · rw [k.get hb id] at y; cases y
  obtain ⟨_, hst⟩ := h.dr.trk
  exact ⟨h.dr.kp kz h.s1, P, h.md.off kz h.dj, kz.get h.ht h.t1, kz.get h.hu h.u1, no _ ⟨_, hst⟩ h.s1, h.s2, no _ ⟨_, h.ht⟩ h.t1, h.t2, no _ ⟨_, h.hu⟩ h.u1, h.u2, h.ts, h.us, h.ut, fun b z y => no b (h.md.2 b y) (fun w => h.dj b w y) z⟩
theorem LY.kept (h : LY c K H st sc p q m t u O Od O2 s x tk kp) (hu : H u' = none) (k : Kp F0 H H') (e : H' u' = some (.lst (tk.map V.int))) : LY c K H' st sc p q m t u' O Od O2 s x tk tk := by
  have y := h.pure k
  exact ⟨y.dr, y.pg, y.md, y.ht, e, y.s1, y.s2, y.t1, y.t2, h.pg.fresh hu, h.md.fresh hu, y.ts, h.dr.new hu, (ne_of_none h.ht hu).symm, y.dj⟩
theorem LY.back (h : LY c K H st sc p q m t u O Od O2 s x tk kp) (hu : H t' = none) (k : Kp F0 H H') (e : H' t' = some (.lst (kp.map V.int))) : LY c K H' st sc p q m t' u O Od O2 s x kp kp := by
  have y := h.pure k
  exact ⟨y.dr, y.pg, y.md, e, y.hu, y.s1, y.s2, h.pg.fresh hu, h.md.fresh hu, y.u1, y.u2, h.dr.new hu, y.us, ne_of_none h.hu hu, y.dj⟩
end
theorem bv_cn (s : PgS) : bv (cnth s) = bv s := by unfold cnth; split <;> rfl
section
variable {P : Program} {w : World} {K : PySem.W.Frag} {mg : Str → Option Value} {base : Heap} {c : Cl}
theorem ok_law {f : Addr} {fd : FuncData} (F : Fun K "law" "law" s_law f fd) (T : Txt K mg c) : FnOk P w K mg base CX0 8 f fd ["_law_script"] (sp_law K) := by
  have tc_Device := T.cl_Device; have tn_Device_pages := T.n_Device_pages; have tn_Device_page_writes := T.n_Device_page_writes; have tn_Device_durable_log := T.n_Device_durable_log; have tn_Device_log_steps := T.n_Device_log_steps; have tn_Device_done := T.n_Device_done; have tn_Device_most := T.n_Device_most
  have tc_Pager := T.cl_Pager; have tn_Pager_device := T.n_Pager_device; have tn_Pager_committed := T.n_Pager_committed; have tn_Pager_dirty := T.n_Pager_dirty
  refine F.ok sc_law ?_ (fun cdv A outer s H vs Q E hr h => ?_)
  · rintro vs H Q E ⟨_, _, rfl, _⟩
    rfl
  · obtain ⟨sc, ns, rfl, hsc, hlen, k⟩ := h
    refine ⟨_, (pss_cons (ps_set (i := 1) sc_law.nd rfl (Or.inl rfl) (pe_lst (pa_cons pe_int (pa_cons pe_int pa_nil))))
      (pss_cons (ps_set (i := 2) sc_law.nd rfl (Or.inl rfl) (pe_gc0 (mk_Device T) (hr.mono (by decide)) pass0S))
      (pss_cons (ps_set (i := 3) sc_law.nd rfl (Or.inl rfl) (pe_gc (mk_Pager T) (hr.mono (by decide)) passN (pa_cons (pv 2) pa_nil)))
      (pss_cons (ps_set (i := 4) sc_law.nd rfl (Or.inl rfl) (pe_g0 (ok__law_new T) (hr.mono (by decide)) pass0S))
      (pss_cons (ps_expr (pe_g (ok__law_counted T) (hr.mono (by decide)) pass0S (pa_cons (pv 4) pa_nil)))
      (pss_cons (ps_set (i := 5) sc_law.nd rfl (Or.inl rfl) (pe_lst pa_nil))
      (pss_cons (ps_set (i := 6) sc_law.nd rfl (Or.inl rfl) (pe_lst pa_nil))
      (pss_cons (ps_for PassesOwn.never rfl (pi_range1 (by rfl) T.z_range (pa_cons (pe_g (ok__law_draw T) (hr.mono (by decide)) pass0S (pa_cons (pv 1) (pa_cons (pv 0) (pa_cons pe_int pa_nil)))) pa_nil)) (pg_name (i := 7) sc_law.nd rfl (Or.inl rfl)) (pss_cons (ps_set (i := 8) sc_law.nd rfl (Or.inl rfl) (pe_g (ok__law_draw T) (hr.mono (by decide)) pass0S (pa_cons (pv 1) (pa_cons (pv 0) (pa_cons pe_int pa_nil)))))
      (C8.pss_cut (ps_if (pt_cmpR op_lt (pv 8) pe_int (nomark _)) (pss_one (ps_if (pt_not (pt_val (pe_g (ok__law_change T) (hr.mono (by decide)) pass0S (pa_cons (pv 1) (pa_cons (pv 0) (pa_cons (pv 3) (pa_cons (pv 4) (pa_cons (pv 5) pa_nil)))))))) (pss_one (ps_ret pe_bl)) pss_nil)) (pss_one (ps_if (pt_cmpR op_lt (pv 8) pe_int (nomark _)) (pss_cons (ps_expr (pe_g (ok__law_committed T) (hr.mono (by decide)) pass0S (pa_cons (pv 4) pa_nil)))
      (pss_cons (ps_set (i := 6) sc_law.nd rfl (Or.inl rfl) (pe_callTy (r := rLstQ K) c_list (by rfl) T.z_list (by decide +kernel) (pa_cons (pv 5) pa_nil)))
      (pss_cons (ps_if (pt_cmpR o_notN (pe_gm0 T.cl_Pager (ok_Pager_commit T) (pv 3) (hr.mono (by decide)) passN) pe_non (nomark _)) (pss_one (ps_ret pe_bl)) pss_nil)
      (pss_one (ps_if (pt_cmpR op_eq (pe_g (ok__law_draw T) (hr.mono (by decide)) pass0S (pa_cons (pv 1) (pa_cons (pv 0) (pa_cons pe_int pa_nil)))) pe_int (nomark _)) (pss_cons (ps_expr (pe_g (ok__law_checked T) (hr.mono (by decide)) pass0S (pa_cons (pv 4) pa_nil)))
      (pss_one (ps_if (pt_cmpR o_notN (pe_gm0 T.cl_Pager (ok_Pager_checkpoint T) (pv 3) (hr.mono (by decide)) passN) pe_non (nomark _)) (pss_one (ps_ret pe_bl)) pss_nil))) pss_nil))))) (pss_cons (ps_dput (hu_of hr) (pv 4) pe_str pe_dnewK rfl)
      (pss_cons (ps_set (i := 5) sc_law.nd rfl (Or.inl rfl) (pe_callTy (r := rLstQ K) c_list (by rfl) T.z_list (by decide +kernel) (pa_cons (pv 6) pa_nil)))
      (C8.pss_cut (ps_if (pt_cmpR op_eq (pv 8) pe_int (nomark _)) (pss_one (ps_expr (pe_gm0 T.cl_Pager (ok_Pager_rollback T) (pv 3) (hr.mono (by decide)) pass0S))) (pss_cons (ps_expr (pe_gm T.cl_Device (ok_Device_crash T) (pv 2) (hr.mono (by decide)) pass0S (pa_cons (pe_lst pa_nil) (pa_cons pe_int pa_nil))))
      (C8.pss_cut (ps_if (pt_cmpR op_gt (pe_callB (r := rLenQ K) c_len (by rfl) T.z_len PySem.boot_len (pa_cons (pe_dget (hu_of hr) (pv 4) pe_str (fun _ _ => rfl)) pa_nil)) pe_int (nomark _)) (pss_one (ps_expr (pe_g (ok__law_checked T) (hr.mono (by decide)) pass0S (pa_cons (pv 4) pa_nil)))) pss_nil)
      (pss_one (ps_set (i := 3) sc_law.nd rfl (Or.inl rfl) (pe_gc (mk_Pager T) (hr.mono (by decide)) passN (pa_cons (pv 2) pa_nil)))))))
      (pss_one (ps_expr (pe_g (ok__law_counted T) (hr.mono (by decide)) pass0S (pa_cons (pv 4) pa_nil))))))))))
      (pss_one (ps_if (pt_not (pt_val (pe_g (ok__law_same T) (hr.mono (by decide)) pass0S (pa_cons (pv 2) (pa_cons (pv 3) (pa_cons (pv 4) (pa_cons (pv 5) pa_nil))))))) (pss_one (ps_ret pe_bl)) pss_nil)))))
      (pss_one (ps_ret pe_bl)))))))))), ?_⟩
    walk_at "cx"
    walk_at "rd"
    refine x_newL fun st H1 hst k1 e1 => ?_
    have dr1 : Dr K H1 st sc := ⟨0, 0, ns, by decide, by decide, e1, hlen, hsc.kp k1⟩
    walk_at "rd"
    intro q dx hq hdx nd
    have km : Kp F0 H1 (upd (upd H1 dx (.own q)) q (.ins c.Device dx [])) := (Kp.new hdx).trans (Kp.new (by rw [upd_ne nd.symm]; exact hq)) fun _ z => z.elim
    refine ⟨q, dx, rfl, upd_same, fun H2 Od hD2 k2 o2 => ⟨rfl, ?_⟩⟩
    have nsq : st ≠ q := ne_of_none e1 hq
    have k12 : Kp F0 H1 H2 := km.trans k2 fun x z => .inr (by rw [z]; exact hq)
    have dr2 := dr1.kp k12 id
    have sod : ¬ Od st := fun z => by
      rcases o2 st z with e | e
      · exact nsq e
      · rw [km.get e1 id] at e; cases e
    walk_at "rd"
    intro p dy hp hdy ndy
    have km3 : Kp F0 H2 (upd (upd H2 dy (.own p)) p (.ins c.Pager dy [])) := (Kp.new hdy).trans (Kp.new (by rw [upd_ne ndy.symm]; exact hp)) fun _ z => z.elim
    have i1 : pini1 [] ⟨[], [], [], [], 0, none⟩ = (pini0 [] ⟨[], [], [], [], 0, none⟩, true) := rfl
    have i2 : pinit [] ⟨[], [], [], [], 0, none⟩ = (cnth (pini0 [] ⟨[], [], [], [], 0, none⟩), true) := rfl
    have S0 : PSt 0 0 (pini0 [] ⟨[], [], [], [], 0, none⟩) [] := ⟨rfl, rfl, rfl, rfl, fun g z => (by cases z), fun n => rfl, fun q z => (by cases z), fun q z => (by cases z), fun q z => (by cases z), Nat.le_refl _, Nat.le_refl _, Nat.le_refl _, Nat.le_refl _⟩
    have R0 : RX x0 (pini0 [] ⟨[], [], [], [], 0, none⟩) := ⟨rfl, fun n => rfl, fun n => rfl, rfl, rfl, List.nodup_nil, List.nodup_nil, List.nodup_nil, List.nodup_nil⟩
    have B0 : BYv (gpg (pini0 [] ⟨[], [], [], [], 0, none⟩)) := fun n => Byt.zeros
    have B0' : BYv (bv (pini0 [] ⟨[], [], [], [], 0, none⟩)) := B0
    generalize pini0 [] ⟨[], [], [], [], 0, none⟩ = s0 at i1 i2 S0 R0 B0 B0'
    have good0 : Good [] := ⟨Nat.zero_le _, fun q h => by cases h⟩
    refine ⟨p, dy, q, Od, _, [], [], 0, rfl, upd_same, hD2.same km3, hD2.fresh hp, rfl, by decide, fun g z => (by cases z), good0, by decide, (by first | exact (S0.pgz (by decide) (by decide)).ck | exact ⟨by decide, by decide, by decide, fun q z => (by cases z), fun q z => (by cases z), by decide, fun q z => (by cases z)⟩), fun _ => by rw [i1]; exact S0.z 0, fun H3 O Od3 P3 t3 => ?_⟩
    rw [i2] at P3 ⊢
    rw [if_pos rfl]
    refine ⟨rfl, ?_⟩
    have sop : st ≠ p := by
      obtain ⟨_, h⟩ := dr2.trk
      exact ne_of_none h hp
    have ks3 := dr2.kp km3 id
    have dr3 := ks3.kp t3.kp fun z => z.elim sop sod
    have so3 : ¬ O st := by
      obtain ⟨_, h⟩ := ks3.trk
      exact t3.kp0 h fun z => z.elim sop sod
    walk_at "rd"
    refine ⟨rfl, fun m H4 O2 M4 k4 f4 => ?_⟩
    have dr4 := dr3.kp k4 id
    have P4 := P3.same k4
    have dj4 : ∀ b, O b → ¬ O2 b := fun b z y => by
      obtain ⟨o, ho⟩ := P3.2 b z
      rw [f4 b y] at ho; cases ho
    have so4 : ¬ O2 st := fun z => by
      obtain ⟨o, ho⟩ := dr3.trk
      rw [f4 st z] at ho; cases ho
    walk_at "rd"
    refine ⟨m, O2, _, rfl, M4, by rw [R0.page S0]; exact S0.z 0, by decide, fun H5 O5 M5 s5 => ?_⟩
    have R1 := R0.cnt S0
    have dr5 := dr4.kp s5.kp so4
    have P5 := P4.off s5.kp fun b z y => dj4 b y z
    have dj5 : ∀ b, O b → ¬ O5 b := fun b z y => s5.dj2 P4.2 (fun b z y => dj4 b y z) b y z
    obtain ⟨_, hst4⟩ := dr4.trk
    have so5 : ¬ O5 st := s5.kp0 hst4 so4
    walk_at "rd"
    refine x_newL fun t H6 ht k6 e6 => ?_
    have dr6 := dr5.kp k6 id
    have P6 := P5.same k6
    have M6 := M5.off k6 fun _ z => z.elim
    walk_at "rd"
    refine x_newL fun u H7 hu k7 e7 => ?_
    have Y7 : LY c K H7 st sc p q m t u O Od3 O5 (cnth s0) (mcnt x0) [] [] :=
      ⟨dr6.kp k7 id, P6.same k7, M6.off k7 fun _ z => z.elim, k7.get e6 id, e7, so3, so5, P5.fresh ht, M5.fresh ht, P6.fresh hu, M6.fresh hu, dr5.new ht, dr6.new hu, (ne_of_none e6 hu).symm, dj5⟩
    walk_at "rd"
    refine ⟨st, sc, 31, rfl, by decide, by decide, Y7.dr, fun dm H9 y0 y1 dr9 k9 => ?_⟩
    have Y9 := Y7.draw k9 dr9
    walk_at "rd"
    refine wfor Wk.rng (fun i σ H' => ∃ u7 u8 p m t u O Od O2 s x tk kp gs, σ = [some (.ref sc), some (.ref st), some (.ref q), some (.ref p), some (.ref m), some (.ref t), some (.ref u), u7, u8] ∧ LY c K H' st sc p q m t u O Od O2 s x tk kp ∧ RX x s ∧ PSt (2 * i + 1) (2 * i) s gs ∧ BYv (gpg s) ∧ BYv (bv s) ∧ (∀ n ∈ tk, 0 ≤ n ∧ n < 256 ^ 4) ∧ (∀ n ∈ kp, 0 ≤ n ∧ n < 256 ^ 4) ∧ tk.length ≤ i ∧ kp.length ≤ i)
      ⟨none, none, p, m, t, u, _, _, _, _, _, _, _, [], rfl, Y9, R1, S0.cn, by rw [gpg_cnth]; exact B0.cn, by rw [bv_cn]; exact B0', fun n z => (by cases z), fun n z => (by cases z), Nat.le_refl _, Nat.le_refl _⟩ (fun _ _ _ _ => trivial) ?_ ?_
    · rintro i x σ H10 ex ⟨u7, u8, p, m, t, u, O, Od, O2, s, x, tk, kp, gs, rfl, Y, rx, ps, by', bv', tb, kb, lt, lk⟩
      obtain ⟨hi, rfl⟩ := rgl_at ex
      have hi30 : i < 30 := by have : i < dm.toNat := hi; omega
      have pn := ps.n1
      have dd : x.dirty.length = s.dir.length := by rw [rx.di]
      have pz := ps.pgz (by omega) (by omega)
      walk_at "rd"
      refine ⟨st, sc, 8, rfl, by decide, by decide, Y.dr, fun kd H11 y0 y1 dr11 k11 => ?_⟩
      have Y1 := Y.draw k11 dr11
      walk_at "rd"
      refine x_cut (fun σ' H' => ∃ p t u O Od O2 s x tk kp gs, σ' = [some (.ref sc), some (.ref st), some (.ref q), some (.ref p), some (.ref m), some (.ref t), some (.ref u), some (.int (0 + (i : Int))), some (.int kd)] ∧ LY c K H' st sc p q m t u O Od O2 s x tk kp ∧ RX x s ∧ PSt (2 * (i + 1) + 1) (2 * (i + 1)) s gs ∧ BYv (gpg s) ∧ BYv (bv s) ∧ (∀ n ∈ tk, 0 ≤ n ∧ n < 256 ^ 4) ∧ (∀ n ∈ kp, 0 ≤ n ∧ n < 256 ^ 4) ∧ tk.length ≤ i + 1 ∧ kp.length ≤ i + 1) ?_ ?_
      · walk_at "rd"
        refine ite_dec (fun e => ?_) fun e => ?_
        · walk_at "rd"
          refine ⟨st, sc, p, q, m, t, u, O, Od, O2, s, x, tk, kp, 2 * i + 1, 2 * i, gs, rfl, Y1, rx, ps, by', tb, by omega, by omega, fun H' O O2 s' x' tk' Y' rx' ps' by2 b' tb' lt' => ?_⟩
          walk_at "rd"
          exact ⟨p, t, u, _, _, _, _, _, _, _, gs, rfl, Y', rx', ps'.le (by omega) (by omega), by2, by rw [b']; exact bv', tb', kb, by omega, by omega⟩
        · walk_at "rd"
          refine ite_dec (fun e4 => ?_) fun e4 => ?_
          · have pl := log_len ps.gd
            have n1 := ps.n1; have n2 := ps.n2; have n4 := ps.n4
            walk_at "rd"
            refine ⟨m, O2, x, rfl, Y1.md, by rw [rx.di]; exact pz.good.resolve_right (by omega), by rw [rx.len]; omega, by rw [rx.lg, ps.lg]; omega, fun H12 O12 M12 s12 => ?_⟩
            have Y2 := Y1.model M12 s12
            have ht2 := Y2.ht
            obtain ⟨⟨dx, a1, a2, y1, y2, DP⟩, _⟩ := id Y2.pg
            have ho := DP.o
            walk_at "rd"
            refine x_lstL (SqL.of ht2) fun u2 H13 hu2 k13 e13 => ?_
            have Y3 := Y2.kept hu2 k13 e13
            obtain ⟨s', gs', ec, ps', ed, ev, el⟩ := ps.com' (by omega) (by omega)
            have rx' : RX (mcom x) s' := by
              have z := rx.com ps (by omega) (by omega)
              rw [ec] at z; exact z
            have bs' : bv s' = gpg s' := by unfold bv; rw [← ed]
            walk_at "rd"
            refine ⟨p, q, O, Od, s, rfl, Y3.pg, pz, by omega, fun H14 O14 Od14 P14 t14 => ?_⟩
            rw [ec] at P14 ⊢
            rw [if_pos rfl]
            have Y4 := Y3.pager P14 t14
            walk_at "rd"
            refine ⟨st, sc, 3, rfl, by decide, by decide, Y4.dr, fun y H15 w0 w1 dr15 k15 => ?_⟩
            have Y5 := Y4.draw k15 dr15
            walk_at "rd"
            refine ite_dec (fun e5 => ?_) fun e5 => ?_
            · have m1 := ps'.n1; have m2 := ps'.n2
              have dl := rx'.dlen; have sl := rx'.len; have m3 := ps'.n3
              walk_at "rd"
              refine ⟨m, O12, _, rfl, Y5.md, by omega, fun H16 O16 M16 s16 => ?_⟩
              have Y6 := Y5.model M16 s16
              obtain ⟨⟨dx, a1, a2, y1, y2, DP⟩, _⟩ := id Y6.pg
              have ho6 := DP.o
              obtain ⟨s2, e2, ps2, d2, v2, bv2⟩ := ps'.ck (by omega)
              have rx2 := rx'.chk ps'
              rw [e2] at rx2
              walk_at "rd"
              refine ⟨p, q, O14, Od14, s', rfl, Y6.pg, (ps'.pgz (by omega) (by omega)).ck, fun H20 O20 Od20 P20 t20 => ?_⟩
              rw [e2] at P20 ⊢
              rw [if_pos rfl]
              have Y7 := Y6.pager P20 t20
              walk_at "rd"
              exact ⟨p, t, u2, _, _, _, _, _, _, _, [], rfl, Y7, rx2, ps2.le (by omega) (by omega), by rw [v2, ev]; exact by', by rw [bv2, bs', ev]; exact by', tb, tb, by omega, by omega⟩
            · exact ⟨p, t, u2, _, _, _, _, _, _, _, gs', rfl, Y5, rx', ps'.le (by omega) (by omega), by rw [ev]; exact by', by rw [bs', ev]; exact by', tb, tb, by omega, by omega⟩
          · obtain ⟨OO, b1, b2, b3, l, kk1, kk2, kk3, eO, D, og⟩ := Y1.md.opn
            have hm := D.o
            walk_at "rd"
            refine x_dnew fun e' H12 he' k12 e12 => ?_
            have hm12 := k12.get hm id
            walk_at "rd"
            intro H13 p13 k13
            have kz : Kp (F1 m) H11 H13 := (k12.mono fun _ z => z.elim).trans k13 fun _ z => .inl z
            have D13 := D.new3 he' kz p13 (k13.get e12 (ne_of_none hm he').symm) (by rw [eO]; exact .inr he')
            have Y2 := Y1.model (D13.clo eO) (Stp.nO (kz.mono fun b z => .inl (.inl z)) og)
            have hu2 := Y2.hu
            walk_at "rd"
            refine x_lstL (SqL.of hu2) fun t2 H14 ht2 k14 e14 => ?_
            have Y3 := Y2.back ht2 k14 e14
            walk_at "rd"
            refine x_cut (fun σ' H' => ∃ p O Od O2 s x gs, σ' = [some (.ref sc), some (.ref st), some (.ref q), some (.ref p), some (.ref m), some (.ref t2), some (.ref u), some (.int (0 + (i : Int))), some (.int kd)] ∧ LY c K H' st sc p q m t2 u O Od O2 (cnth s) x kp kp ∧ RX x s ∧ PSt (2 * i + 2) (2 * i + 1) s gs ∧ BYv (gpg s) ∧ BYv (bv s)) ?_ ?_
            · obtain ⟨⟨dx, a1, a2, y1, y2, DP⟩, _⟩ := id Y3.pg
              have ho := DP.o
              walk_at "rd"
              refine ite_dec (fun e5 => ?_) fun e5 => ?_
              · walk_at "rd"
                refine ⟨p, q, O, Od, s, rfl, Y3.pg, ps.nod.z 0, fun H15 O15 P15 t15 => ?_⟩
                have Y4 := Y3.pager P15 t15
                walk_at "rd"
                exact ⟨p, O15, Od, _, _, _, gs, rfl, Y4, ⟨rfl, rx.si, rx.dk, rx.lg, rx.st, rx.n1, rx.n2, rx.n3, rx.n4⟩, ps.nod.le (by omega) (by omega), bv', bv'⟩
              · obtain ⟨⟨dz, c1, c2, c3, c4, kvs, ws, DD⟩, _⟩ := id Y3.pg.dv.1
                have hq := DD.o
                walk_at "rd"
                refine x_newL fun l1 H15 hl1 k15 e15 => ?_
                have L1 := Y3.dev.pure k15
                have hq2 := k15.get hq id
                walk_at "rd"
                refine ⟨q, Od, s.dev, l1, [], 0, rfl, by decide, L1.dv, SqL.of e15, Y3.dev.dv.fresh hl1, pz.sml, fun H16 Od16 V16 t16 => ?_⟩
                have L2 := L1.step V16 t16
                have dl := rx.dlen; have sl := rx.len; have m1 := ps.n1; have m2 := ps.n2; have m3 := ps.n3
                obtain ⟨ic, iz, s1, ie, ips, id', iv⟩ := ps.init (by omega) (by omega)
                have rxi := rx.init ps (by omega) (by omega)
                rw [ie] at rxi
                obtain ⟨⟨b1', b2', b3', l', kk1', kk2', kk3', D2⟩, _⟩ := id L2.md
                have hm2 := D2.o
                have hl2 := D2.lg.1
                walk_at "rd"
                refine x_cut (fun σ' H' => ∃ O2, σ' = [some (.ref sc), some (.ref st), some (.ref q), some (.ref p), some (.ref m), some (.ref t2), some (.ref u), some (.int (0 + (i : Int))), some (.int kd)] ∧ LD c K H' st sc q m t2 u Od16 O2 (dCrash [] 0 s.dev) (if 0 < x.log.length then mchk { x with dirty := [] } else { x with dirty := [] }) kp kp) ?_ ?_
                · walk_at "rd"
                  rw [List.length_map]
                  refine ite_dec (fun e6 => ?_) fun e6 => ?_
                  · have e6' : 0 < x.log.length := by
                      have : (0 : Int) < (x.log.length : Int) := e6
                      omega
                    walk_at "rd"
                    refine ⟨m, _, _, rfl, L2.md, by show x.disk.length + x.since.length ≤ _; omega, fun H17 O17 M17 s17 => ?_⟩
                    walk_at "rd"
                    refine ⟨O17, rfl, ?_⟩
                    rw [if_pos e6']
                    exact L2.model M17 s17
                  · have e6' : ¬ 0 < x.log.length := fun z => e6 (by show (0 : Int) < (x.log.length : Int); omega)
                    refine ⟨nO O2 H11 H13, rfl, ?_⟩
                    rw [if_neg e6']
                    exact L2
                · rintro σ' H17 ⟨O17, rfl, L3⟩
                  walk_at "rd"
                  intro p' dy hp hdy ndy
                  have km3 : Kp F0 H17 (upd (upd H17 dy (.own p')) p' (.ins c.Pager dy [])) := (Kp.new hdy).trans (Kp.new (by rw [upd_ne ndy.symm]; exact hp)) fun _ z => z.elim
                  have n4 := ps.n4
                  have ei : pinit gs (dCrash [] 0 s.dev) = (cnth s1, true) := by unfold pinit; rw [ie, if_pos rfl]
                  refine ⟨p', dy, q, Od16, _, gs, [], 0, rfl, upd_same, L3.dv.same km3, L3.dv.fresh hp, by rw [ic]; simp, by decide, ps.gd, good0, by omega, iz, fun _ => by rw [ie]; exact ips.z 0, fun H18 O18 Od18 P18 t18 => ?_⟩
                  rw [ei] at P18 ⊢
                  rw [if_pos rfl]
                  refine ⟨rfl, ?_⟩
                  have Y4 := L3.opened km3 hp P18 t18
                  walk_at "rd"
                  have bb : bv s1 = gpg s1 := by unfold bv; rw [← id']
                  exact ⟨p', O18, Od18, O17, s1, _, [], rfl, Y4, rxi, ips.le (by omega) (by omega), by rw [iv]; exact bv', by rw [bb, iv]; exact bv'⟩
            · rintro σ' H15 ⟨p, O, Od, O2, s, x, gs, rfl, Y4, rx, ps, by', bv'⟩
              walk_at "rd"
              refine ⟨m, O2, x, rfl, Y4.md, by rw [rx.page ps]; exact ps.z 0, by have := ps.n1; rw [rx.di]; omega, fun H16 O16 M16 s16 => ?_⟩
              have Y5 := Y4.model M16 s16
              walk_at "rd"
              exact ⟨p, t2, u, O, Od, O16, _, _, _, _, gs, rfl, Y5, rx.cnt ps, ps.cn.le (by omega) (by omega), by rw [gpg_cnth]; exact by'.cn, by rw [bv_cn]; exact bv', kb, kb, by omega, by omega⟩
      · rintro σ' H12 ⟨p, t, u, O, Od, O2, s, x, tk, kp, gs, rfl, Y, rx, ps, by', bv', tb, kb, lt, lk⟩
        walk_at "rd"
        refine ⟨q, p, m, t, O, Od, O2, s, x, tk, _, _, gs, rfl, Y.pg, Y.md, rx, ps, by omega, by omega, Y.ht, by omega, fun H13 k13 => ?_⟩
        walk_at "rd"
        exact ⟨_, _, p, m, t, u, O, Od, O2, s, x, tk, kp, gs, rfl, Y.pure k13, rx, ps, by', bv', tb, kb, lt, lk⟩
    · rintro σ H10 ⟨u7, u8, p, m, t, u, O, Od, O2, s, x, tk, kp, gs, rfl, _⟩
      walk_at "rd"
      exact k _
end
theorem all_mk {l : PySem.W.OpenLaw} {w : World} {K : PySem.W.Frag} {h : Heap} {mg : Str → Option Value} {fa : Addr} (X : K.In h) (G : h.Ns mainGlobals mg) (hfa : mg "law" = some (.ref fa))
    {C_Pager : Addr}
    {C_Device : Addr}
    {C_PowerCut : Addr}
    {C_VaultError : Addr}
    {f1 : Addr} {od1 an1 : Option Addr} {sl1 : Array (Option Value)} {oc1 kV1 dc1 pm1 cd1 ct1 : Value}
    {f2 : Addr} {od2 an2 : Option Addr} {sl2 : Array (Option Value)} {oc2 kV2 dc2 pm2 cd2 ct2 : Value}
    {f3 : Addr} {od3 an3 : Option Addr} {sl3 : Array (Option Value)} {oc3 kV3 dc3 pm3 cd3 ct3 : Value}
    {f4 : Addr} {od4 an4 : Option Addr} {sl4 : Array (Option Value)} {oc4 kV4 dc4 pm4 cd4 ct4 : Value}
    {f5 : Addr} {od5 an5 : Option Addr} {sl5 : Array (Option Value)} {oc5 kV5 dc5 pm5 cd5 ct5 : Value}
    {f6 : Addr} {od6 an6 : Option Addr} {sl6 : Array (Option Value)} {oc6 kV6 dc6 pm6 cd6 ct6 : Value}
    {f7 : Addr} {od7 an7 : Option Addr} {sl7 : Array (Option Value)} {oc7 kV7 dc7 pm7 cd7 ct7 : Value}
    {f8 : Addr} {od8 an8 : Option Addr} {sl8 : Array (Option Value)} {oc8 kV8 dc8 pm8 cd8 ct8 : Value}
    {f9 : Addr} {od9 an9 : Option Addr} {sl9 : Array (Option Value)} {oc9 kV9 dc9 pm9 cd9 ct9 : Value}
    {f10 : Addr} {od10 an10 : Option Addr} {sl10 : Array (Option Value)} {oc10 kV10 dc10 pm10 cd10 ct10 : Value}
    {f11 : Addr} {od11 an11 : Option Addr} {sl11 : Array (Option Value)} {oc11 kV11 dc11 pm11 cd11 ct11 : Value}
    {f12 : Addr} {od12 an12 : Option Addr} {sl12 : Array (Option Value)} {oc12 kV12 dc12 pm12 cd12 ct12 : Value}
    {f13 : Addr} {od13 an13 : Option Addr} {sl13 : Array (Option Value)} {oc13 kV13 dc13 pm13 cd13 ct13 : Value}
    {f14 : Addr} {od14 an14 : Option Addr} {sl14 : Array (Option Value)} {oc14 kV14 dc14 pm14 cd14 ct14 : Value}
    {f15 : Addr} {od15 an15 : Option Addr} {sl15 : Array (Option Value)} {oc15 kV15 dc15 pm15 cd15 ct15 : Value}
    {f16 : Addr} {od16 an16 : Option Addr} {sl16 : Array (Option Value)} {oc16 kV16 dc16 pm16 cd16 ct16 : Value}
    {f17 : Addr} {od17 an17 : Option Addr} {sl17 : Array (Option Value)} {oc17 kV17 dc17 pm17 cd17 ct17 : Value}
    {f18 : Addr} {od18 an18 : Option Addr} {sl18 : Array (Option Value)} {oc18 kV18 dc18 pm18 cd18 ct18 : Value}
    {f19 : Addr} {od19 an19 : Option Addr} {sl19 : Array (Option Value)} {oc19 kV19 dc19 pm19 cd19 ct19 : Value}
    {f20 : Addr} {od20 an20 : Option Addr} {sl20 : Array (Option Value)} {oc20 kV20 dc20 pm20 cd20 ct20 : Value}
    {f21 : Addr} {od21 an21 : Option Addr} {sl21 : Array (Option Value)} {oc21 kV21 dc21 pm21 cd21 ct21 : Value}
    {f22 : Addr} {od22 an22 : Option Addr} {sl22 : Array (Option Value)} {oc22 kV22 dc22 pm22 cd22 ct22 : Value}
    {f23 : Addr} {od23 an23 : Option Addr} {sl23 : Array (Option Value)} {oc23 kV23 dc23 pm23 cd23 ct23 : Value}
    {f24 : Addr} {od24 an24 : Option Addr} {sl24 : Array (Option Value)} {oc24 kV24 dc24 pm24 cd24 ct24 : Value}
    {f25 : Addr} {od25 an25 : Option Addr} {sl25 : Array (Option Value)} {oc25 kV25 dc25 pm25 cd25 ct25 : Value}
    {f26 : Addr} {od26 an26 : Option Addr} {sl26 : Array (Option Value)} {oc26 kV26 dc26 pm26 cd26 ct26 : Value}
    {f27 : Addr} {od27 an27 : Option Addr} {sl27 : Array (Option Value)} {oc27 kV27 dc27 pm27 cd27 ct27 : Value}
    {f28 : Addr} {od28 an28 : Option Addr} {sl28 : Array (Option Value)} {oc28 kV28 dc28 pm28 cd28 ct28 : Value}
    {f29 : Addr} {od29 an29 : Option Addr} {sl29 : Array (Option Value)} {oc29 kV29 dc29 pm29 cd29 ct29 : Value}
    {f30 : Addr} {od30 an30 : Option Addr} {sl30 : Array (Option Value)} {oc30 kV30 dc30 pm30 cd30 ct30 : Value}
    {f31 : Addr} {od31 an31 : Option Addr} {sl31 : Array (Option Value)} {oc31 kV31 dc31 pm31 cd31 ct31 : Value}
    {f32 : Addr} {od32 an32 : Option Addr} {sl32 : Array (Option Value)} {oc32 kV32 dc32 pm32 cd32 ct32 : Value}
    {f33 : Addr} {od33 an33 : Option Addr} {sl33 : Array (Option Value)} {oc33 kV33 dc33 pm33 cd33 ct33 : Value}
    {f34 : Addr} {od34 an34 : Option Addr} {sl34 : Array (Option Value)} {oc34 kV34 dc34 pm34 cd34 ct34 : Value}
    {f35 : Addr} {od35 an35 : Option Addr} {sl35 : Array (Option Value)} {oc35 kV35 dc35 pm35 cd35 ct35 : Value}
    {f36 : Addr} {od36 an36 : Option Addr} {sl36 : Array (Option Value)} {oc36 kV36 dc36 pm36 cd36 ct36 : Value}
    {f37 : Addr} {od37 an37 : Option Addr} {sl37 : Array (Option Value)} {oc37 kV37 dc37 pm37 cd37 ct37 : Value}
    {f38 : Addr} {od38 an38 : Option Addr} {sl38 : Array (Option Value)} {oc38 kV38 dc38 pm38 cd38 ct38 : Value}
    {f39 : Addr} {od39 an39 : Option Addr} {sl39 : Array (Option Value)} {oc39 kV39 dc39 pm39 cd39 ct39 : Value}
    {f40 : Addr} {od40 an40 : Option Addr} {sl40 : Array (Option Value)} {oc40 kV40 dc40 pm40 cd40 ct40 : Value}
    {f41 : Addr} {od41 an41 : Option Addr} {sl41 : Array (Option Value)} {oc41 kV41 dc41 pm41 cd41 ct41 : Value}
    {f42 : Addr} {od42 an42 : Option Addr} {sl42 : Array (Option Value)} {oc42 kV42 dc42 pm42 cd42 ct42 : Value}
    {f43 : Addr} {od43 an43 : Option Addr} {sl43 : Array (Option Value)} {oc43 kV43 dc43 pm43 cd43 ct43 : Value}
    {f44 : Addr} {od44 an44 : Option Addr} {sl44 : Array (Option Value)} {oc44 kV44 dc44 pm44 cd44 ct44 : Value}
    {t_PAGE_SIZE : Tok}
    {t_HALF : Tok}
    {t_NUMBER_SIZE : Tok}
    {t_FIELD_SIZE : Tok}
    {t_PAGES : Tok}
    {t_FREE : Tok}
    (aC_VaultError : PySem.W.nsIn K mainGlobals "VaultError" = some (some (.ref C_VaultError)))
    (aC_PowerCut : PySem.W.nsIn K mainGlobals "PowerCut" = some (some (.ref C_PowerCut)))
    (aC_Device : PySem.W.nsIn K mainGlobals "Device" = some (some (.ref C_Device)))
    (aC_Pager : PySem.W.nsIn K mainGlobals "Pager" = some (some (.ref C_Pager)))
    (a1 : PySem.W.nsIn K mainGlobals "_wall" = some (some (.ref f1)))
    (l1 : K.lookup f1 = some ⟨oc1, od1, .func (PySem.W.fnOf "_wall" "_wall" (defArgs s__wall) (defBody s__wall) (defScope s__wall) .none kV1 dc1 pm1 an1 cd1 ct1), sl1⟩)
    (c1 : PySem.W.codeIn K cd1 "_wall" = true)
    (k1 : PySem.W.keepIn K (.ref f1) = true)
    (a2 : PySem.W.findIn K (.ref C_Device) "__init__" = some (some (.ref f2)))
    (i2 : PySem.W.isFn K (.ref f2) = true)
    (l2 : K.lookup f2 = some ⟨oc2, od2, .func (PySem.W.fnOf "__init__" "Device.__init__" (defArgs s_Device___init__) (defBody s_Device___init__) (defScope s_Device___init__) .none kV2 dc2 pm2 an2 cd2 ct2), sl2⟩)
    (c2 : PySem.W.codeIn K cd2 "Device.__init__" = true)
    (k2 : PySem.W.keepIn K (.ref f2) = true)
    (a3 : PySem.W.findIn K (.ref C_Device) "step" = some (some (.ref f3)))
    (i3 : PySem.W.isFn K (.ref f3) = true)
    (l3 : K.lookup f3 = some ⟨oc3, od3, .func (PySem.W.fnOf "step" "Device.step" (defArgs s_Device_step) (defBody s_Device_step) (defScope s_Device_step) .none kV3 dc3 pm3 an3 cd3 ct3), sl3⟩)
    (c3 : PySem.W.codeIn K cd3 "Device.step" = true)
    (k3 : PySem.W.keepIn K (.ref f3) = true)
    (a4 : PySem.W.findIn K (.ref C_Device) "write_page" = some (some (.ref f4)))
    (i4 : PySem.W.isFn K (.ref f4) = true)
    (l4 : K.lookup f4 = some ⟨oc4, od4, .func (PySem.W.fnOf "write_page" "Device.write_page" (defArgs s_Device_write_page) (defBody s_Device_write_page) (defScope s_Device_write_page) .none kV4 dc4 pm4 an4 cd4 ct4), sl4⟩)
    (c4 : PySem.W.codeIn K cd4 "Device.write_page" = true)
    (k4 : PySem.W.keepIn K (.ref f4) = true)
    (a5 : PySem.W.findIn K (.ref C_Device) "sync_pages" = some (some (.ref f5)))
    (i5 : PySem.W.isFn K (.ref f5) = true)
    (l5 : K.lookup f5 = some ⟨oc5, od5, .func (PySem.W.fnOf "sync_pages" "Device.sync_pages" (defArgs s_Device_sync_pages) (defBody s_Device_sync_pages) (defScope s_Device_sync_pages) .none kV5 dc5 pm5 an5 cd5 ct5), sl5⟩)
    (c5 : PySem.W.codeIn K cd5 "Device.sync_pages" = true)
    (k5 : PySem.W.keepIn K (.ref f5) = true)
    (a6 : PySem.W.findIn K (.ref C_Device) "append" = some (some (.ref f6)))
    (i6 : PySem.W.isFn K (.ref f6) = true)
    (l6 : K.lookup f6 = some ⟨oc6, od6, .func (PySem.W.fnOf "append" "Device.append" (defArgs s_Device_append) (defBody s_Device_append) (defScope s_Device_append) .none kV6 dc6 pm6 an6 cd6 ct6), sl6⟩)
    (c6 : PySem.W.codeIn K cd6 "Device.append" = true)
    (k6 : PySem.W.keepIn K (.ref f6) = true)
    (a7 : PySem.W.findIn K (.ref C_Device) "clear" = some (some (.ref f7)))
    (i7 : PySem.W.isFn K (.ref f7) = true)
    (l7 : K.lookup f7 = some ⟨oc7, od7, .func (PySem.W.fnOf "clear" "Device.clear" (defArgs s_Device_clear) (defBody s_Device_clear) (defScope s_Device_clear) .none kV7 dc7 pm7 an7 cd7 ct7), sl7⟩)
    (c7 : PySem.W.codeIn K cd7 "Device.clear" = true)
    (k7 : PySem.W.keepIn K (.ref f7) = true)
    (a8 : PySem.W.findIn K (.ref C_Device) "sync_log" = some (some (.ref f8)))
    (i8 : PySem.W.isFn K (.ref f8) = true)
    (l8 : K.lookup f8 = some ⟨oc8, od8, .func (PySem.W.fnOf "sync_log" "Device.sync_log" (defArgs s_Device_sync_log) (defBody s_Device_sync_log) (defScope s_Device_sync_log) .none kV8 dc8 pm8 an8 cd8 ct8), sl8⟩)
    (c8 : PySem.W.codeIn K cd8 "Device.sync_log" = true)
    (k8 : PySem.W.keepIn K (.ref f8) = true)
    (a9 : PySem.W.findIn K (.ref C_Device) "durable_page" = some (some (.ref f9)))
    (i9 : PySem.W.isFn K (.ref f9) = true)
    (l9 : K.lookup f9 = some ⟨oc9, od9, .func (PySem.W.fnOf "durable_page" "Device.durable_page" (defArgs s_Device_durable_page) (defBody s_Device_durable_page) (defScope s_Device_durable_page) .none kV9 dc9 pm9 an9 cd9 ct9), sl9⟩)
    (c9 : PySem.W.codeIn K cd9 "Device.durable_page" = true)
    (k9 : PySem.W.keepIn K (.ref f9) = true)
    (a10 : PySem.W.findIn K (.ref C_Device) "page" = some (some (.ref f10)))
    (i10 : PySem.W.isFn K (.ref f10) = true)
    (l10 : K.lookup f10 = some ⟨oc10, od10, .func (PySem.W.fnOf "page" "Device.page" (defArgs s_Device_page) (defBody s_Device_page) (defScope s_Device_page) .none kV10 dc10 pm10 an10 cd10 ct10), sl10⟩)
    (c10 : PySem.W.codeIn K cd10 "Device.page" = true)
    (k10 : PySem.W.keepIn K (.ref f10) = true)
    (a11 : PySem.W.findIn K (.ref C_Device) "log" = some (some (.ref f11)))
    (i11 : PySem.W.isFn K (.ref f11) = true)
    (l11 : K.lookup f11 = some ⟨oc11, od11, .func (PySem.W.fnOf "log" "Device.log" (defArgs s_Device_log) (defBody s_Device_log) (defScope s_Device_log) .none kV11 dc11 pm11 an11 cd11 ct11), sl11⟩)
    (c11 : PySem.W.codeIn K cd11 "Device.log" = true)
    (k11 : PySem.W.keepIn K (.ref f11) = true)
    (a12 : PySem.W.findIn K (.ref C_Device) "limit" = some (some (.ref f12)))
    (i12 : PySem.W.isFn K (.ref f12) = true)
    (l12 : K.lookup f12 = some ⟨oc12, od12, .func (PySem.W.fnOf "limit" "Device.limit" (defArgs s_Device_limit) (defBody s_Device_limit) (defScope s_Device_limit) .none kV12 dc12 pm12 an12 cd12 ct12), sl12⟩)
    (c12 : PySem.W.codeIn K cd12 "Device.limit" = true)
    (k12 : PySem.W.keepIn K (.ref f12) = true)
    (a13 : PySem.W.findIn K (.ref C_Device) "crash" = some (some (.ref f13)))
    (i13 : PySem.W.isFn K (.ref f13) = true)
    (l13 : K.lookup f13 = some ⟨oc13, od13, .func (PySem.W.fnOf "crash" "Device.crash" (defArgs s_Device_crash) (defBody s_Device_crash) (defScope s_Device_crash) .none kV13 dc13 pm13 an13 cd13 ct13), sl13⟩)
    (c13 : PySem.W.codeIn K cd13 "Device.crash" = true)
    (k13 : PySem.W.keepIn K (.ref f13) = true)
    (a14 : PySem.W.findIn K (.ref C_Device) "steps" = some (some (.ref f14)))
    (i14 : PySem.W.isFn K (.ref f14) = true)
    (l14 : K.lookup f14 = some ⟨oc14, od14, .func (PySem.W.fnOf "steps" "Device.steps" (defArgs s_Device_steps) (defBody s_Device_steps) (defScope s_Device_steps) .none kV14 dc14 pm14 an14 cd14 ct14), sl14⟩)
    (c14 : PySem.W.codeIn K cd14 "Device.steps" = true)
    (k14 : PySem.W.keepIn K (.ref f14) = true)
    (a15 : PySem.W.findIn K (.ref C_Device) "pending" = some (some (.ref f15)))
    (i15 : PySem.W.isFn K (.ref f15) = true)
    (l15 : K.lookup f15 = some ⟨oc15, od15, .func (PySem.W.fnOf "pending" "Device.pending" (defArgs s_Device_pending) (defBody s_Device_pending) (defScope s_Device_pending) .none kV15 dc15 pm15 an15 cd15 ct15), sl15⟩)
    (c15 : PySem.W.codeIn K cd15 "Device.pending" = true)
    (k15 : PySem.W.keepIn K (.ref f15) = true)
    (a16 : PySem.W.nsIn K mainGlobals "write_number" = some (some (.ref f16)))
    (l16 : K.lookup f16 = some ⟨oc16, od16, .func (PySem.W.fnOf "write_number" "write_number" (defArgs s_write_number) (defBody s_write_number) (defScope s_write_number) .none kV16 dc16 pm16 an16 cd16 ct16), sl16⟩)
    (c16 : PySem.W.codeIn K cd16 "write_number" = true)
    (k16 : PySem.W.keepIn K (.ref f16) = true)
    (a17 : PySem.W.nsIn K mainGlobals "read_number" = some (some (.ref f17)))
    (l17 : K.lookup f17 = some ⟨oc17, od17, .func (PySem.W.fnOf "read_number" "read_number" (defArgs s_read_number) (defBody s_read_number) (defScope s_read_number) .none kV17 dc17 pm17 an17 cd17 ct17), sl17⟩)
    (c17 : PySem.W.codeIn K cd17 "read_number" = true)
    (k17 : PySem.W.keepIn K (.ref f17) = true)
    (a18 : PySem.W.nsIn K mainGlobals "write_group" = some (some (.ref f18)))
    (l18 : K.lookup f18 = some ⟨oc18, od18, .func (PySem.W.fnOf "write_group" "write_group" (defArgs s_write_group) (defBody s_write_group) (defScope s_write_group) .none kV18 dc18 pm18 an18 cd18 ct18), sl18⟩)
    (c18 : PySem.W.codeIn K cd18 "write_group" = true)
    (k18 : PySem.W.keepIn K (.ref f18) = true)
    (a19 : PySem.W.nsIn K mainGlobals "read_groups" = some (some (.ref f19)))
    (l19 : K.lookup f19 = some ⟨oc19, od19, .func (PySem.W.fnOf "read_groups" "read_groups" (defArgs s_read_groups) (defBody s_read_groups) (defScope s_read_groups) .none kV19 dc19 pm19 an19 cd19 ct19), sl19⟩)
    (c19 : PySem.W.codeIn K cd19 "read_groups" = true)
    (k19 : PySem.W.keepIn K (.ref f19) = true)
    (a20 : PySem.W.findIn K (.ref C_Pager) "__init__" = some (some (.ref f20)))
    (i20 : PySem.W.isFn K (.ref f20) = true)
    (l20 : K.lookup f20 = some ⟨oc20, od20, .func (PySem.W.fnOf "__init__" "Pager.__init__" (defArgs s_Pager___init__) (defBody s_Pager___init__) (defScope s_Pager___init__) .none kV20 dc20 pm20 an20 cd20 ct20), sl20⟩)
    (c20 : PySem.W.codeIn K cd20 "Pager.__init__" = true)
    (k20 : PySem.W.keepIn K (.ref f20) = true)
    (a21 : PySem.W.findIn K (.ref C_Pager) "count_head" = some (some (.ref f21)))
    (i21 : PySem.W.isFn K (.ref f21) = true)
    (l21 : K.lookup f21 = some ⟨oc21, od21, .func (PySem.W.fnOf "count_head" "Pager.count_head" (defArgs s_Pager_count_head) (defBody s_Pager_count_head) (defScope s_Pager_count_head) .none kV21 dc21 pm21 an21 cd21 ct21), sl21⟩)
    (c21 : PySem.W.codeIn K cd21 "Pager.count_head" = true)
    (k21 : PySem.W.keepIn K (.ref f21) = true)
    (a22 : PySem.W.findIn K (.ref C_Pager) "read" = some (some (.ref f22)))
    (i22 : PySem.W.isFn K (.ref f22) = true)
    (l22 : K.lookup f22 = some ⟨oc22, od22, .func (PySem.W.fnOf "read" "Pager.read" (defArgs s_Pager_read) (defBody s_Pager_read) (defScope s_Pager_read) .none kV22 dc22 pm22 an22 cd22 ct22), sl22⟩)
    (c22 : PySem.W.codeIn K cd22 "Pager.read" = true)
    (k22 : PySem.W.keepIn K (.ref f22) = true)
    (a23 : PySem.W.findIn K (.ref C_Pager) "write" = some (some (.ref f23)))
    (i23 : PySem.W.isFn K (.ref f23) = true)
    (l23 : K.lookup f23 = some ⟨oc23, od23, .func (PySem.W.fnOf "write" "Pager.write" (defArgs s_Pager_write) (defBody s_Pager_write) (defScope s_Pager_write) .none kV23 dc23 pm23 an23 cd23 ct23), sl23⟩)
    (c23 : PySem.W.codeIn K cd23 "Pager.write" = true)
    (k23 : PySem.W.keepIn K (.ref f23) = true)
    (a24 : PySem.W.findIn K (.ref C_Pager) "field" = some (some (.ref f24)))
    (i24 : PySem.W.isFn K (.ref f24) = true)
    (l24 : K.lookup f24 = some ⟨oc24, od24, .func (PySem.W.fnOf "field" "Pager.field" (defArgs s_Pager_field) (defBody s_Pager_field) (defScope s_Pager_field) .none kV24 dc24 pm24 an24 cd24 ct24), sl24⟩)
    (c24 : PySem.W.codeIn K cd24 "Pager.field" = true)
    (k24 : PySem.W.keepIn K (.ref f24) = true)
    (a25 : PySem.W.findIn K (.ref C_Pager) "set_field" = some (some (.ref f25)))
    (i25 : PySem.W.isFn K (.ref f25) = true)
    (l25 : K.lookup f25 = some ⟨oc25, od25, .func (PySem.W.fnOf "set_field" "Pager.set_field" (defArgs s_Pager_set_field) (defBody s_Pager_set_field) (defScope s_Pager_set_field) .none kV25 dc25 pm25 an25 cd25 ct25), sl25⟩)
    (c25 : PySem.W.codeIn K cd25 "Pager.set_field" = true)
    (k25 : PySem.W.keepIn K (.ref f25) = true)
    (a26 : PySem.W.findIn K (.ref C_Pager) "allocate" = some (some (.ref f26)))
    (i26 : PySem.W.isFn K (.ref f26) = true)
    (l26 : K.lookup f26 = some ⟨oc26, od26, .func (PySem.W.fnOf "allocate" "Pager.allocate" (defArgs s_Pager_allocate) (defBody s_Pager_allocate) (defScope s_Pager_allocate) .none kV26 dc26 pm26 an26 cd26 ct26), sl26⟩)
    (c26 : PySem.W.codeIn K cd26 "Pager.allocate" = true)
    (k26 : PySem.W.keepIn K (.ref f26) = true)
    (a27 : PySem.W.findIn K (.ref C_Pager) "release" = some (some (.ref f27)))
    (i27 : PySem.W.isFn K (.ref f27) = true)
    (l27 : K.lookup f27 = some ⟨oc27, od27, .func (PySem.W.fnOf "release" "Pager.release" (defArgs s_Pager_release) (defBody s_Pager_release) (defScope s_Pager_release) .none kV27 dc27 pm27 an27 cd27 ct27), sl27⟩)
    (c27 : PySem.W.codeIn K cd27 "Pager.release" = true)
    (k27 : PySem.W.keepIn K (.ref f27) = true)
    (a28 : PySem.W.findIn K (.ref C_Pager) "commit" = some (some (.ref f28)))
    (i28 : PySem.W.isFn K (.ref f28) = true)
    (l28 : K.lookup f28 = some ⟨oc28, od28, .func (PySem.W.fnOf "commit" "Pager.commit" (defArgs s_Pager_commit) (defBody s_Pager_commit) (defScope s_Pager_commit) .none kV28 dc28 pm28 an28 cd28 ct28), sl28⟩)
    (c28 : PySem.W.codeIn K cd28 "Pager.commit" = true)
    (k28 : PySem.W.keepIn K (.ref f28) = true)
    (a29 : PySem.W.findIn K (.ref C_Pager) "checkpoint" = some (some (.ref f29)))
    (i29 : PySem.W.isFn K (.ref f29) = true)
    (l29 : K.lookup f29 = some ⟨oc29, od29, .func (PySem.W.fnOf "checkpoint" "Pager.checkpoint" (defArgs s_Pager_checkpoint) (defBody s_Pager_checkpoint) (defScope s_Pager_checkpoint) .none kV29 dc29 pm29 an29 cd29 ct29), sl29⟩)
    (c29 : PySem.W.codeIn K cd29 "Pager.checkpoint" = true)
    (k29 : PySem.W.keepIn K (.ref f29) = true)
    (a30 : PySem.W.findIn K (.ref C_Pager) "rollback" = some (some (.ref f30)))
    (i30 : PySem.W.isFn K (.ref f30) = true)
    (l30 : K.lookup f30 = some ⟨oc30, od30, .func (PySem.W.fnOf "rollback" "Pager.rollback" (defArgs s_Pager_rollback) (defBody s_Pager_rollback) (defScope s_Pager_rollback) .none kV30 dc30 pm30 an30 cd30 ct30), sl30⟩)
    (c30 : PySem.W.codeIn K cd30 "Pager.rollback" = true)
    (k30 : PySem.W.keepIn K (.ref f30) = true)
    (a31 : PySem.W.nsIn K mainGlobals "_law_draw" = some (some (.ref f31)))
    (l31 : K.lookup f31 = some ⟨oc31, od31, .func (PySem.W.fnOf "_law_draw" "_law_draw" (defArgs s__law_draw) (defBody s__law_draw) (defScope s__law_draw) .none kV31 dc31 pm31 an31 cd31 ct31), sl31⟩)
    (c31 : PySem.W.codeIn K cd31 "_law_draw" = true)
    (k31 : PySem.W.keepIn K (.ref f31) = true)
    (a32 : PySem.W.nsIn K mainGlobals "_law_bytes" = some (some (.ref f32)))
    (l32 : K.lookup f32 = some ⟨oc32, od32, .func (PySem.W.fnOf "_law_bytes" "_law_bytes" (defArgs s__law_bytes) (defBody s__law_bytes) (defScope s__law_bytes) .none kV32 dc32 pm32 an32 cd32 ct32), sl32⟩)
    (c32 : PySem.W.codeIn K cd32 "_law_bytes" = true)
    (k32 : PySem.W.keepIn K (.ref f32) = true)
    (a33 : PySem.W.nsIn K mainGlobals "_law_new" = some (some (.ref f33)))
    (l33 : K.lookup f33 = some ⟨oc33, od33, .func (PySem.W.fnOf "_law_new" "_law_new" (defArgs s__law_new) (defBody s__law_new) (defScope s__law_new) .none kV33 dc33 pm33 an33 cd33 ct33), sl33⟩)
    (c33 : PySem.W.codeIn K cd33 "_law_new" = true)
    (k33 : PySem.W.keepIn K (.ref f33) = true)
    (a34 : PySem.W.nsIn K mainGlobals "_law_page" = some (some (.ref f34)))
    (l34 : K.lookup f34 = some ⟨oc34, od34, .func (PySem.W.fnOf "_law_page" "_law_page" (defArgs s__law_page) (defBody s__law_page) (defScope s__law_page) .none kV34 dc34 pm34 an34 cd34 ct34), sl34⟩)
    (c34 : PySem.W.codeIn K cd34 "_law_page" = true)
    (k34 : PySem.W.keepIn K (.ref f34) = true)
    (a35 : PySem.W.nsIn K mainGlobals "_law_write" = some (some (.ref f35)))
    (l35 : K.lookup f35 = some ⟨oc35, od35, .func (PySem.W.fnOf "_law_write" "_law_write" (defArgs s__law_write) (defBody s__law_write) (defScope s__law_write) .none kV35 dc35 pm35 an35 cd35 ct35), sl35⟩)
    (c35 : PySem.W.codeIn K cd35 "_law_write" = true)
    (k35 : PySem.W.keepIn K (.ref f35) = true)
    (a36 : PySem.W.nsIn K mainGlobals "_law_number" = some (some (.ref f36)))
    (l36 : K.lookup f36 = some ⟨oc36, od36, .func (PySem.W.fnOf "_law_number" "_law_number" (defArgs s__law_number) (defBody s__law_number) (defScope s__law_number) .none kV36 dc36 pm36 an36 cd36 ct36), sl36⟩)
    (c36 : PySem.W.codeIn K cd36 "_law_number" = true)
    (k36 : PySem.W.keepIn K (.ref f36) = true)
    (a37 : PySem.W.nsIn K mainGlobals "_law_set" = some (some (.ref f37)))
    (l37 : K.lookup f37 = some ⟨oc37, od37, .func (PySem.W.fnOf "_law_set" "_law_set" (defArgs s__law_set) (defBody s__law_set) (defScope s__law_set) .none kV37 dc37 pm37 an37 cd37 ct37), sl37⟩)
    (c37 : PySem.W.codeIn K cd37 "_law_set" = true)
    (k37 : PySem.W.keepIn K (.ref f37) = true)
    (a38 : PySem.W.nsIn K mainGlobals "_law_counted" = some (some (.ref f38)))
    (l38 : K.lookup f38 = some ⟨oc38, od38, .func (PySem.W.fnOf "_law_counted" "_law_counted" (defArgs s__law_counted) (defBody s__law_counted) (defScope s__law_counted) .none kV38 dc38 pm38 an38 cd38 ct38), sl38⟩)
    (c38 : PySem.W.codeIn K cd38 "_law_counted" = true)
    (k38 : PySem.W.keepIn K (.ref f38) = true)
    (a39 : PySem.W.nsIn K mainGlobals "_law_committed" = some (some (.ref f39)))
    (l39 : K.lookup f39 = some ⟨oc39, od39, .func (PySem.W.fnOf "_law_committed" "_law_committed" (defArgs s__law_committed) (defBody s__law_committed) (defScope s__law_committed) .none kV39 dc39 pm39 an39 cd39 ct39), sl39⟩)
    (c39 : PySem.W.codeIn K cd39 "_law_committed" = true)
    (k39 : PySem.W.keepIn K (.ref f39) = true)
    (a40 : PySem.W.nsIn K mainGlobals "_law_checked" = some (some (.ref f40)))
    (l40 : K.lookup f40 = some ⟨oc40, od40, .func (PySem.W.fnOf "_law_checked" "_law_checked" (defArgs s__law_checked) (defBody s__law_checked) (defScope s__law_checked) .none kV40 dc40 pm40 an40 cd40 ct40), sl40⟩)
    (c40 : PySem.W.codeIn K cd40 "_law_checked" = true)
    (k40 : PySem.W.keepIn K (.ref f40) = true)
    (a41 : PySem.W.nsIn K mainGlobals "_law_taken" = some (some (.ref f41)))
    (l41 : K.lookup f41 = some ⟨oc41, od41, .func (PySem.W.fnOf "_law_taken" "_law_taken" (defArgs s__law_taken) (defBody s__law_taken) (defScope s__law_taken) .none kV41 dc41 pm41 an41 cd41 ct41), sl41⟩)
    (c41 : PySem.W.codeIn K cd41 "_law_taken" = true)
    (k41 : PySem.W.keepIn K (.ref f41) = true)
    (a42 : PySem.W.nsIn K mainGlobals "_law_change" = some (some (.ref f42)))
    (l42 : K.lookup f42 = some ⟨oc42, od42, .func (PySem.W.fnOf "_law_change" "_law_change" (defArgs s__law_change) (defBody s__law_change) (defScope s__law_change) .none kV42 dc42 pm42 an42 cd42 ct42), sl42⟩)
    (c42 : PySem.W.codeIn K cd42 "_law_change" = true)
    (k42 : PySem.W.keepIn K (.ref f42) = true)
    (a43 : PySem.W.nsIn K mainGlobals "_law_same" = some (some (.ref f43)))
    (l43 : K.lookup f43 = some ⟨oc43, od43, .func (PySem.W.fnOf "_law_same" "_law_same" (defArgs s__law_same) (defBody s__law_same) (defScope s__law_same) .none kV43 dc43 pm43 an43 cd43 ct43), sl43⟩)
    (c43 : PySem.W.codeIn K cd43 "_law_same" = true)
    (k43 : PySem.W.keepIn K (.ref f43) = true)
    (a44 : PySem.W.nsIn K mainGlobals "law" = some (some (.ref f44)))
    (l44 : K.lookup f44 = some ⟨oc44, od44, .func (PySem.W.fnOf "law" "law" (defArgs s_law) (defBody s_law) (defScope s_law) .none kV44 dc44 pm44 an44 cd44 ct44), sl44⟩)
    (c44 : PySem.W.codeIn K cd44 "law" = true)
    (k44 : PySem.W.keepIn K (.ref f44) = true)
    (g_PAGE_SIZE : PySem.W.nsIn K mainGlobals "PAGE_SIZE" = some (some (.int 256 t_PAGE_SIZE)))
    (g_HALF : PySem.W.nsIn K mainGlobals "HALF" = some (some (.int 128 t_HALF)))
    (g_NUMBER_SIZE : PySem.W.nsIn K mainGlobals "NUMBER_SIZE" = some (some (.int 4 t_NUMBER_SIZE)))
    (g_FIELD_SIZE : PySem.W.nsIn K mainGlobals "FIELD_SIZE" = some (some (.int 4 t_FIELD_SIZE)))
    (g_PAGES : PySem.W.nsIn K mainGlobals "PAGES" = some (some (.int 6 t_PAGES)))
    (g_FREE : PySem.W.nsIn K mainGlobals "FREE" = some (some (.int 7 t_FREE)))
    (z_ValueError : PySem.W.nsIn K mainGlobals "ValueError" = some none)
    (z_int : PySem.W.nsIn K mainGlobals "int" = some none)
    (z_len : PySem.W.nsIn K mainGlobals "len" = some none)
    (z_list : PySem.W.nsIn K mainGlobals "list" = some none)
    (z_min : PySem.W.nsIn K mainGlobals "min" = some none)
    (z_range : PySem.W.nsIn K mainGlobals "range" = some none)
    (z_reversed : PySem.W.nsIn K mainGlobals "reversed" = some none)
    (z_sorted : PySem.W.nsIn K mainGlobals "sorted" = some none)
    (pg_Device : PySem.W.plainGet K C_Device Str.empty = true)
    (hd_Device : PySem.W.hasDictIn K C_Device = true)
    (po_Device : PySem.W.plainOver K C_Device = true)
    (sa_Device : PySem.W.findIn K (.ref C_Device) "__setattr__" = some (some (.builtin "object.__setattr__")))
    (mk_Device : PySem.W.makesIn K C_Device = true)
    (kc_Device : PySem.W.keepIn K (.ref C_Device) = true)
    (n_Device_pages : PySem.W.findIn K (.ref C_Device) "pages" = some none)
    (n_Device_page_writes : PySem.W.findIn K (.ref C_Device) "page_writes" = some none)
    (n_Device_durable_log : PySem.W.findIn K (.ref C_Device) "durable_log" = some none)
    (n_Device_log_steps : PySem.W.findIn K (.ref C_Device) "log_steps" = some none)
    (n_Device_done : PySem.W.findIn K (.ref C_Device) "done" = some none)
    (n_Device_most : PySem.W.findIn K (.ref C_Device) "most" = some none)
    (pg_Pager : PySem.W.plainGet K C_Pager Str.empty = true)
    (hd_Pager : PySem.W.hasDictIn K C_Pager = true)
    (po_Pager : PySem.W.plainOver K C_Pager = true)
    (sa_Pager : PySem.W.findIn K (.ref C_Pager) "__setattr__" = some (some (.builtin "object.__setattr__")))
    (mk_Pager : PySem.W.makesIn K C_Pager = true)
    (kc_Pager : PySem.W.keepIn K (.ref C_Pager) = true)
    (n_Pager_device : PySem.W.findIn K (.ref C_Pager) "device" = some none)
    (n_Pager_committed : PySem.W.findIn K (.ref C_Pager) "committed" = some none)
    (n_Pager_dirty : PySem.W.findIn K (.ref C_Pager) "dirty" = some none)
    (xx_VaultError : PySem.W.excIn K C_VaultError [.type "ValueError", .type "Exception", .type "BaseException", .type "object"] "ValueError.__new__" = true)
    (xk_VaultError : PySem.W.keepIn K (.ref C_VaultError) = true)
    (xb_VaultError : PySem.W.subIn K (.ref C_VaultError) (.type "BaseException") = some true)
    (xt_VaultError : PySem.W.typeIn K (.ref C_VaultError) = some (.type "type"))
    (xi_VaultError : PySem.W.isClsIn K C_VaultError = true)
    (xs_VaultError : PySem.W.subIn K (.ref C_VaultError) (.ref C_VaultError) = some true)
    (xx_PowerCut : PySem.W.excIn K C_PowerCut [.type "ValueError", .type "Exception", .type "BaseException", .type "object"] "ValueError.__new__" = true)
    (xk_PowerCut : PySem.W.keepIn K (.ref C_PowerCut) = true)
    (xb_PowerCut : PySem.W.subIn K (.ref C_PowerCut) (.type "BaseException") = some true)
    (xt_PowerCut : PySem.W.typeIn K (.ref C_PowerCut) = some (.type "type"))
    (xi_PowerCut : PySem.W.isClsIn K C_PowerCut = true)
    (xs_PowerCut : PySem.W.subIn K (.ref C_PowerCut) (.ref C_PowerCut) = some true)
    : ∃ fd : FuncData, (∀ (s : Shared) (v : Value), BindsTo s fd ⟨[v], []⟩ [("_law_script", v)]) ∧ ∀ base : Heap, K.In base → base.Ns mainGlobals mg → FnOk l.prog w K mg base CX0 8 fa fd ["_law_script"] (sp_law K) := by
  have T : Txt K mg ⟨C_VaultError, C_PowerCut, C_Device, C_Pager⟩ := { f__wall := ⟨f1, _, fun_mk (st := s__wall) l1 c1 k1, PySem.W.mg_of X G a1⟩, f_Device___init__ := ⟨f2, _, fun_mk (st := s_Device___init__) l2 c2 k2, a2, i2⟩, f_Device_step := ⟨f3, _, fun_mk (st := s_Device_step) l3 c3 k3, a3, i3⟩, f_Device_write_page := ⟨f4, _, fun_mk (st := s_Device_write_page) l4 c4 k4, a4, i4⟩, f_Device_sync_pages := ⟨f5, _, fun_mk (st := s_Device_sync_pages) l5 c5 k5, a5, i5⟩, f_Device_append := ⟨f6, _, fun_mk (st := s_Device_append) l6 c6 k6, a6, i6⟩, f_Device_clear := ⟨f7, _, fun_mk (st := s_Device_clear) l7 c7 k7, a7, i7⟩, f_Device_sync_log := ⟨f8, _, fun_mk (st := s_Device_sync_log) l8 c8 k8, a8, i8⟩, f_Device_durable_page := ⟨f9, _, fun_mk (st := s_Device_durable_page) l9 c9 k9, a9, i9⟩, f_Device_page := ⟨f10, _, fun_mk (st := s_Device_page) l10 c10 k10, a10, i10⟩, f_Device_log := ⟨f11, _, fun_mk (st := s_Device_log) l11 c11 k11, a11, i11⟩, f_Device_limit := ⟨f12, _, fun_mk (st := s_Device_limit) l12 c12 k12, a12, i12⟩, f_Device_crash := ⟨f13, _, fun_mk (st := s_Device_crash) l13 c13 k13, a13, i13⟩, f_Device_steps := ⟨f14, _, fun_mk (st := s_Device_steps) l14 c14 k14, a14, i14⟩, f_Device_pending := ⟨f15, _, fun_mk (st := s_Device_pending) l15 c15 k15, a15, i15⟩, f_write_number := ⟨f16, _, fun_mk (st := s_write_number) l16 c16 k16, PySem.W.mg_of X G a16⟩, f_read_number := ⟨f17, _, fun_mk (st := s_read_number) l17 c17 k17, PySem.W.mg_of X G a17⟩, f_write_group := ⟨f18, _, fun_mk (st := s_write_group) l18 c18 k18, PySem.W.mg_of X G a18⟩, f_read_groups := ⟨f19, _, fun_mk (st := s_read_groups) l19 c19 k19, PySem.W.mg_of X G a19⟩, f_Pager___init__ := ⟨f20, _, fun_mk (st := s_Pager___init__) l20 c20 k20, a20, i20⟩, f_Pager_count_head := ⟨f21, _, fun_mk (st := s_Pager_count_head) l21 c21 k21, a21, i21⟩, f_Pager_read := ⟨f22, _, fun_mk (st := s_Pager_read) l22 c22 k22, a22, i22⟩, f_Pager_write := ⟨f23, _, fun_mk (st := s_Pager_write) l23 c23 k23, a23, i23⟩, f_Pager_field := ⟨f24, _, fun_mk (st := s_Pager_field) l24 c24 k24, a24, i24⟩, f_Pager_set_field := ⟨f25, _, fun_mk (st := s_Pager_set_field) l25 c25 k25, a25, i25⟩, f_Pager_allocate := ⟨f26, _, fun_mk (st := s_Pager_allocate) l26 c26 k26, a26, i26⟩, f_Pager_release := ⟨f27, _, fun_mk (st := s_Pager_release) l27 c27 k27, a27, i27⟩, f_Pager_commit := ⟨f28, _, fun_mk (st := s_Pager_commit) l28 c28 k28, a28, i28⟩, f_Pager_checkpoint := ⟨f29, _, fun_mk (st := s_Pager_checkpoint) l29 c29 k29, a29, i29⟩, f_Pager_rollback := ⟨f30, _, fun_mk (st := s_Pager_rollback) l30 c30 k30, a30, i30⟩, f__law_draw := ⟨f31, _, fun_mk (st := s__law_draw) l31 c31 k31, PySem.W.mg_of X G a31⟩, f__law_bytes := ⟨f32, _, fun_mk (st := s__law_bytes) l32 c32 k32, PySem.W.mg_of X G a32⟩, f__law_new := ⟨f33, _, fun_mk (st := s__law_new) l33 c33 k33, PySem.W.mg_of X G a33⟩, f__law_page := ⟨f34, _, fun_mk (st := s__law_page) l34 c34 k34, PySem.W.mg_of X G a34⟩, f__law_write := ⟨f35, _, fun_mk (st := s__law_write) l35 c35 k35, PySem.W.mg_of X G a35⟩, f__law_number := ⟨f36, _, fun_mk (st := s__law_number) l36 c36 k36, PySem.W.mg_of X G a36⟩, f__law_set := ⟨f37, _, fun_mk (st := s__law_set) l37 c37 k37, PySem.W.mg_of X G a37⟩, f__law_counted := ⟨f38, _, fun_mk (st := s__law_counted) l38 c38 k38, PySem.W.mg_of X G a38⟩, f__law_committed := ⟨f39, _, fun_mk (st := s__law_committed) l39 c39 k39, PySem.W.mg_of X G a39⟩, f__law_checked := ⟨f40, _, fun_mk (st := s__law_checked) l40 c40 k40, PySem.W.mg_of X G a40⟩, f__law_taken := ⟨f41, _, fun_mk (st := s__law_taken) l41 c41 k41, PySem.W.mg_of X G a41⟩, f__law_change := ⟨f42, _, fun_mk (st := s__law_change) l42 c42 k42, PySem.W.mg_of X G a42⟩, f__law_same := ⟨f43, _, fun_mk (st := s__law_same) l43 c43 k43, PySem.W.mg_of X G a43⟩, f_law := ⟨f44, _, fun_mk (st := s_law) l44 c44 k44, PySem.W.mg_of X G a44⟩, m_PAGE_SIZE := ⟨_, PySem.W.mg_of X G g_PAGE_SIZE⟩, m_HALF := ⟨_, PySem.W.mg_of X G g_HALF⟩, m_NUMBER_SIZE := ⟨_, PySem.W.mg_of X G g_NUMBER_SIZE⟩, m_FIELD_SIZE := ⟨_, PySem.W.mg_of X G g_FIELD_SIZE⟩, m_PAGES := ⟨_, PySem.W.mg_of X G g_PAGES⟩, m_FREE := ⟨_, PySem.W.mg_of X G g_FREE⟩, z_ValueError := PySem.W.mg_none_of X G z_ValueError, z_int := PySem.W.mg_none_of X G z_int, z_len := PySem.W.mg_none_of X G z_len, z_list := PySem.W.mg_none_of X G z_list, z_min := PySem.W.mg_none_of X G z_min, z_range := PySem.W.mg_none_of X G z_range, z_reversed := PySem.W.mg_none_of X G z_reversed, z_sorted := PySem.W.mg_none_of X G z_sorted, cl_Device := ⟨pg_Device, hd_Device, po_Device, sa_Device⟩, mk_Device := ⟨mk_Device, kc_Device⟩, mg_Device := PySem.W.mg_of X G aC_Device, n_Device_pages := n_Device_pages, n_Device_page_writes := n_Device_page_writes, n_Device_durable_log := n_Device_durable_log, n_Device_log_steps := n_Device_log_steps, n_Device_done := n_Device_done, n_Device_most := n_Device_most, cl_Pager := ⟨pg_Pager, hd_Pager, po_Pager, sa_Pager⟩, mk_Pager := ⟨mk_Pager, kc_Pager⟩, mg_Pager := PySem.W.mg_of X G aC_Pager, n_Pager_device := n_Pager_device, n_Pager_committed := n_Pager_committed, n_Pager_dirty := n_Pager_dirty, ex_VaultError := ⟨PySem.W.mg_of X G aC_VaultError, xx_VaultError, xk_VaultError, xb_VaultError, xt_VaultError, xi_VaultError, xs_VaultError⟩, ex_PowerCut := ⟨PySem.W.mg_of X G aC_PowerCut, xx_PowerCut, xk_PowerCut, xb_PowerCut, xt_PowerCut, xi_PowerCut, xs_PowerCut⟩ }
  have e := hfa.symm.trans (PySem.W.mg_of X G a44)
  cases e
  refine ⟨PySem.W.fnOf "law" "law" (defArgs s_law) (defBody s_law) (defScope s_law) .none kV44 dc44 pm44 an44 cd44 ct44, fun s v => .of_eq rfl, fun base _ _ => ?_⟩
  exact ok_law (fun_mk (st := s_law) l44 c44 k44) T
theorem walk {l : PySem.W.OpenLaw} {q : Program} {loose : List Str} {XP : (Str → Option Value) → Heap → Prop} {YP : World → Heap → Prop} {d : DefRec} {K : Params → PySem.W.Frag} (hn : l.most = some 63) (hdf : d.params.defaults = [])
    (hY : ∀ (w : World) (h : Heap), YP w h → (K w.params).In h)
    (F : ∀ (w : World) (mg : Str → Option Value) (fa : Addr) (h : Heap), (K w.params).In h → h.Ns mainGlobals mg → mg d.name = some (.ref fa) →
      ∃ fd : FuncData, (∀ (s : Shared) (u : Value), BindsTo s fd ⟨[u], []⟩ [("_law_script", u)]) ∧ ∀ base : Heap, (K w.params).In base → base.Ns mainGlobals mg → FnOk l.prog w (K w.params) mg base CX0 8 fa fd ["_law_script"] (sp_law (K w.params))) :
    PySem.W.WalkO q loose XP YP l.row.toRowW d [] (fun f vs => PySem.call f vs) :=
  L2.walk_of (n := 63) (k := 8) (x := "_law_script") (CX := fun _ => CX0) (sp := fun w => sp_law (K w.params)) hn (by decide) hdf ⟨rfl, by decide, by decide⟩ hY F (fun _ _ a ns hl hO hS => ⟨a, ns, rfl, Sc.of hO hS, hl, fun _ => rfl⟩) fun _ _ _ _ _ z => z
end NV
open PySem PySem.W PyProof.Rows
set_option maxRecDepth 100000 in
set_option maxHeartbeats 0 in
theorem PySem.Challenge.cw_nearvault_k19_steps_and_log_of_pagers_holds : PySem.Challenge.rw_nearvault_k19_steps_and_log_of_pagers.Holds := by
  w_on; o_law; k_head; (case hw => w_witness2)
  k_fill
  refine NV.walk (l := PySem.Challenge.rw_nearvault_k19_steps_and_log_of_pagers) rfl rfl (fun w h Y => PySem.W.kIn_of Y) ?F
  case F =>
    intro w mg fa h KX G hmg
    refine' NV.all_mk KX G hmg ?aC_VaultError ?aC_PowerCut ?aC_Device ?aC_Pager ?a1 ?l1 ?c1 ?k1 ?a2 ?i2 ?l2 ?c2 ?k2 ?a3 ?i3 ?l3 ?c3 ?k3 ?a4 ?i4 ?l4 ?c4 ?k4 ?a5 ?i5 ?l5 ?c5 ?k5 ?a6 ?i6 ?l6 ?c6 ?k6 ?a7 ?i7 ?l7 ?c7 ?k7 ?a8 ?i8 ?l8 ?c8 ?k8 ?a9 ?i9 ?l9 ?c9 ?k9 ?a10 ?i10 ?l10 ?c10 ?k10 ?a11 ?i11 ?l11 ?c11 ?k11 ?a12 ?i12 ?l12 ?c12 ?k12 ?a13 ?i13 ?l13 ?c13 ?k13 ?a14 ?i14 ?l14 ?c14 ?k14 ?a15 ?i15 ?l15 ?c15 ?k15 ?a16 ?l16 ?c16 ?k16 ?a17 ?l17 ?c17 ?k17 ?a18 ?l18 ?c18 ?k18 ?a19 ?l19 ?c19 ?k19 ?a20 ?i20 ?l20 ?c20 ?k20 ?a21 ?i21 ?l21 ?c21 ?k21 ?a22 ?i22 ?l22 ?c22 ?k22 ?a23 ?i23 ?l23 ?c23 ?k23 ?a24 ?i24 ?l24 ?c24 ?k24 ?a25 ?i25 ?l25 ?c25 ?k25 ?a26 ?i26 ?l26 ?c26 ?k26 ?a27 ?i27 ?l27 ?c27 ?k27 ?a28 ?i28 ?l28 ?c28 ?k28 ?a29 ?i29 ?l29 ?c29 ?k29 ?a30 ?i30 ?l30 ?c30 ?k30 ?a31 ?l31 ?c31 ?k31 ?a32 ?l32 ?c32 ?k32 ?a33 ?l33 ?c33 ?k33 ?a34 ?l34 ?c34 ?k34 ?a35 ?l35 ?c35 ?k35 ?a36 ?l36 ?c36 ?k36 ?a37 ?l37 ?c37 ?k37 ?a38 ?l38 ?c38 ?k38 ?a39 ?l39 ?c39 ?k39 ?a40 ?l40 ?c40 ?k40 ?a41 ?l41 ?c41 ?k41 ?a42 ?l42 ?c42 ?k42 ?a43 ?l43 ?c43 ?k43 ?a44 ?l44 ?c44 ?k44 ?g_PAGE_SIZE ?g_HALF ?g_NUMBER_SIZE ?g_FIELD_SIZE ?g_PAGES ?g_FREE ?z_ValueError ?z_int ?z_len ?z_list ?z_min ?z_range ?z_reversed ?z_sorted ?pg_Device ?hd_Device ?po_Device ?sa_Device ?mk_Device ?kc_Device ?n_Device_pages ?n_Device_page_writes ?n_Device_durable_log ?n_Device_log_steps ?n_Device_done ?n_Device_most ?pg_Pager ?hd_Pager ?po_Pager ?sa_Pager ?mk_Pager ?kc_Pager ?n_Pager_device ?n_Pager_committed ?n_Pager_dirty ?xx_VaultError ?xk_VaultError ?xb_VaultError ?xt_VaultError ?xi_VaultError ?xs_VaultError ?xx_PowerCut ?xk_PowerCut ?xb_PowerCut ?xt_PowerCut ?xi_PowerCut ?xs_PowerCut
    (case aC_VaultError => k_is)
    (case aC_PowerCut => k_is)
    (case aC_Device => k_is)
    (case aC_Pager => k_is)
    (case a1 => k_is)
    (case l1 => k_is)
    (case c1 => k_is)
    (case k1 => k_is)
    (case a2 => k_is)
    (case i2 => k_is)
    (case l2 => k_is)
    (case c2 => k_is)
    (case k2 => k_is)
    (case a3 => k_is)
    (case i3 => k_is)
    (case l3 => k_is)
    (case c3 => k_is)
    (case k3 => k_is)
    (case a4 => k_is)
    (case i4 => k_is)
    (case l4 => k_is)
    (case c4 => k_is)
    (case k4 => k_is)
    (case a5 => k_is)
    (case i5 => k_is)
    (case l5 => k_is)
    (case c5 => k_is)
    (case k5 => k_is)
    (case a6 => k_is)
    (case i6 => k_is)
    (case l6 => k_is)
    (case c6 => k_is)
    (case k6 => k_is)
    (case a7 => k_is)
    (case i7 => k_is)
    (case l7 => k_is)
    (case c7 => k_is)
    (case k7 => k_is)
    (case a8 => k_is)
    (case i8 => k_is)
    (case l8 => k_is)
    (case c8 => k_is)
    (case k8 => k_is)
    (case a9 => k_is)
    (case i9 => k_is)
    (case l9 => k_is)
    (case c9 => k_is)
    (case k9 => k_is)
    (case a10 => k_is)
    (case i10 => k_is)
    (case l10 => k_is)
    (case c10 => k_is)
    (case k10 => k_is)
    (case a11 => k_is)
    (case i11 => k_is)
    (case l11 => k_is)
    (case c11 => k_is)
    (case k11 => k_is)
    (case a12 => k_is)
    (case i12 => k_is)
    (case l12 => k_is)
    (case c12 => k_is)
    (case k12 => k_is)
    (case a13 => k_is)
    (case i13 => k_is)
    (case l13 => k_is)
    (case c13 => k_is)
    (case k13 => k_is)
    (case a14 => k_is)
    (case i14 => k_is)
    (case l14 => k_is)
    (case c14 => k_is)
    (case k14 => k_is)
    (case a15 => k_is)
    (case i15 => k_is)
    (case l15 => k_is)
    (case c15 => k_is)
    (case k15 => k_is)
    (case a16 => k_is)
    (case l16 => k_is)
    (case c16 => k_is)
    (case k16 => k_is)
    (case a17 => k_is)
    (case l17 => k_is)
    (case c17 => k_is)
    (case k17 => k_is)
    (case a18 => k_is)
    (case l18 => k_is)
    (case c18 => k_is)
    (case k18 => k_is)
    (case a19 => k_is)
    (case l19 => k_is)
    (case c19 => k_is)
    (case k19 => k_is)
    (case a20 => k_is)
    (case i20 => k_is)
    (case l20 => k_is)
    (case c20 => k_is)
    (case k20 => k_is)
    (case a21 => k_is)
    (case i21 => k_is)
    (case l21 => k_is)
    (case c21 => k_is)
    (case k21 => k_is)
    (case a22 => k_is)
    (case i22 => k_is)
    (case l22 => k_is)
    (case c22 => k_is)
    (case k22 => k_is)
    (case a23 => k_is)
    (case i23 => k_is)
    (case l23 => k_is)
    (case c23 => k_is)
    (case k23 => k_is)
    (case a24 => k_is)
    (case i24 => k_is)
    (case l24 => k_is)
    (case c24 => k_is)
    (case k24 => k_is)
    (case a25 => k_is)
    (case i25 => k_is)
    (case l25 => k_is)
    (case c25 => k_is)
    (case k25 => k_is)
    (case a26 => k_is)
    (case i26 => k_is)
    (case l26 => k_is)
    (case c26 => k_is)
    (case k26 => k_is)
    (case a27 => k_is)
    (case i27 => k_is)
    (case l27 => k_is)
    (case c27 => k_is)
    (case k27 => k_is)
    (case a28 => k_is)
    (case i28 => k_is)
    (case l28 => k_is)
    (case c28 => k_is)
    (case k28 => k_is)
    (case a29 => k_is)
    (case i29 => k_is)
    (case l29 => k_is)
    (case c29 => k_is)
    (case k29 => k_is)
    (case a30 => k_is)
    (case i30 => k_is)
    (case l30 => k_is)
    (case c30 => k_is)
    (case k30 => k_is)
    (case a31 => k_is)
    (case l31 => k_is)
    (case c31 => k_is)
    (case k31 => k_is)
    (case a32 => k_is)
    (case l32 => k_is)
    (case c32 => k_is)
    (case k32 => k_is)
    (case a33 => k_is)
    (case l33 => k_is)
    (case c33 => k_is)
    (case k33 => k_is)
    (case a34 => k_is)
    (case l34 => k_is)
    (case c34 => k_is)
    (case k34 => k_is)
    (case a35 => k_is)
    (case l35 => k_is)
    (case c35 => k_is)
    (case k35 => k_is)
    (case a36 => k_is)
    (case l36 => k_is)
    (case c36 => k_is)
    (case k36 => k_is)
    (case a37 => k_is)
    (case l37 => k_is)
    (case c37 => k_is)
    (case k37 => k_is)
    (case a38 => k_is)
    (case l38 => k_is)
    (case c38 => k_is)
    (case k38 => k_is)
    (case a39 => k_is)
    (case l39 => k_is)
    (case c39 => k_is)
    (case k39 => k_is)
    (case a40 => k_is)
    (case l40 => k_is)
    (case c40 => k_is)
    (case k40 => k_is)
    (case a41 => k_is)
    (case l41 => k_is)
    (case c41 => k_is)
    (case k41 => k_is)
    (case a42 => k_is)
    (case l42 => k_is)
    (case c42 => k_is)
    (case k42 => k_is)
    (case a43 => k_is)
    (case l43 => k_is)
    (case c43 => k_is)
    (case k43 => k_is)
    (case a44 => k_is)
    (case l44 => k_is)
    (case c44 => k_is)
    (case k44 => k_is)
    (case g_PAGE_SIZE => k_is)
    (case g_HALF => k_is)
    (case g_NUMBER_SIZE => k_is)
    (case g_FIELD_SIZE => k_is)
    (case g_PAGES => k_is)
    (case g_FREE => k_is)
    (case z_ValueError => k_is)
    (case z_int => k_is)
    (case z_len => k_is)
    (case z_list => k_is)
    (case z_min => k_is)
    (case z_range => k_is)
    (case z_reversed => k_is)
    (case z_sorted => k_is)
    (case pg_Device => k_is)
    (case hd_Device => k_is)
    (case po_Device => k_is)
    (case sa_Device => k_is)
    (case mk_Device => k_is)
    (case kc_Device => k_is)
    (case n_Device_pages => k_is)
    (case n_Device_page_writes => k_is)
    (case n_Device_durable_log => k_is)
    (case n_Device_log_steps => k_is)
    (case n_Device_done => k_is)
    (case n_Device_most => k_is)
    (case pg_Pager => k_is)
    (case hd_Pager => k_is)
    (case po_Pager => k_is)
    (case sa_Pager => k_is)
    (case mk_Pager => k_is)
    (case kc_Pager => k_is)
    (case n_Pager_device => k_is)
    (case n_Pager_committed => k_is)
    (case n_Pager_dirty => k_is)
    (case xx_VaultError => k_exc)
    (case xk_VaultError => k_is)
    (case xb_VaultError => k_is)
    (case xt_VaultError => k_is)
    (case xi_VaultError => k_is)
    (case xs_VaultError => (first | rfl | k_is))
    (case xx_PowerCut => k_exc)
    (case xk_PowerCut => k_is)
    (case xb_PowerCut => k_is)
    (case xt_PowerCut => k_is)
    (case xi_PowerCut => k_is)
    (case xs_PowerCut => (first | rfl | k_is))
