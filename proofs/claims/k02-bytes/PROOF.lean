import PyProof.Rows.All
import Wide.All
import OpenK.AllK
import Wide.FinOn
import HandS.ForMost
import HandS.ForExc
import HandS.Wide
import HandS.IsInst
import HandS.More
import HandS.RevRange
import HandS.TupAny
import HandS.TupLe
import HandS.SortInts
import HandS.Small
import HandS.Codes
import HandS.WideBits
import PySem.Challenge.RW_nearvault_k02_numbers_and_points_as_byte
set_option Elab.async false
set_option linter.all false
set_option maxRecDepth 100000
set_option maxHeartbeats 4000000
/-! Nearvault: what all claims share. -/
namespace NV
open PySem L2

/-! ### packaged callables -/
section
variable (P : Program) (w : World) (K : PySem.W.Frag) (mg : Str → Option Value) (base : Heap)
/-- the def that the module's name x holds keeps its promise -/
def GF (CX : CXT) (k : Nat) (x : Str) (sp : Sp) : Prop := ∃ f fd ps, FnOk P w K mg base CX k f fd ps sp ∧ mg x = some (.ref f) ∧ PySem.W.keepIn K (.ref f) = true ∧ Binds K fd ps []
/-- the method m of the class at C -/
def GM (CX : CXT) (k : Nat) (C : Addr) (m : Str) (sp : Sp) : Prop := ∃ f fd ps, FnOk P w K mg base CX k f fd ps sp ∧ Meth K C m f ∧ Binds K fd ps []
/-- the class at C by its __init__ -/
def GC (CX : CXT) (k : Nat) (x : Str) (C : Addr) (sp : Sp) : Prop := ∃ f fd ps, FnOk P w K mg base CX k f fd ps sp ∧ Mk K C f ∧ mg x = some (.ref C) ∧ Binds K fd ps []
end

section
variable {X : Cx} {CX : CXT} {k : Nat} {x : Str} {sp : Sp} {E : L2.St → XK} {p pos apos : Pos} {e o : Expr} {es : List Expr} {t : TA} {ta : TE} {C : Addr} {m : Str} {pl : Sem Bool}
theorem pass0S : ∀ σ, PassesAt CX0 X σ ((fun _ => E0) σ) := fun _ _ _ _ _ _ _ h => h.elim
theorem passN : ∀ σ, PassesAt (L2.CX X.prog X.w) X σ ((fun _ => E0) σ) := fun σ pins H s e s' I c => passL pins σ H s e s' I c
theorem pe_g (G : GF X.prog X.w X.K X.mg X.base CX k x sp) (hr : Room k X.A) (hx : ∀ σ, PassesAt CX X σ (E σ)) (ha : PA X (e :: es) t) (hg : Gl X x := by rfl)
    (hdb : (x == ("__debug__" : Str)) = false := by decide) (he : starEach (e :: es) X.env = (false, eval e X.env) :: starEach es X.env := by rfl) (hpl : (backTo pos (starEach es X.env)).any (·.1) = false := by rfl) :
    PE X (.Call (.Name x p) (e :: es) [] pos) (tCallS sp E t) := by
  obtain ⟨f, fd, ps, F, hm, hk, hb⟩ := G
  exact pe_callS F hr hg hm hk hb hx ha hdb he hpl
theorem pe_g0 (G : GF X.prog X.w X.K X.mg X.base CX k x sp) (hr : Room k X.A) (hx : ∀ σ, PassesAt CX X σ (E σ)) (hg : Gl X x := by rfl)
    (hdb : (x == ("__debug__" : Str)) = false := by decide) : PE X (.Call (.Name x p) [] [] pos) (tCallS sp E tNil) := by
  obtain ⟨f, fd, ps, F, hm, hk, hb⟩ := G
  refine ⟨fun pins s σ H Q I h => wpAny_Call_Name_kw (ld_glob I hg hm ?_ hdb)⟩
  exact PySem.W.callWith_K0 I.kIn hk (run_fnS (us := []) F hr hb (hx σ) I .nil h)
/-- o.m(e, ..), what is raised wished for at the caller's slots -/
def tMethS (C : Addr) (m : Str) (sp : Sp) (E : L2.St → XK) (ta : TE) (t : TA) : TE := fun σ H Q => ta σ H fun x H1 => ∃ a dx fs, x = .ref a ∧ H1 a = some (.ins C dx fs) ∧ fs.lookup m = none ∧ t σ H1 fun vs H2 => sp (.ref a :: vs) H2 Q (E σ)
theorem pe_gm (c : Cls X.K C) (G : GM X.prog X.w X.K X.mg X.base CX k C m sp) (ho : PE X o ta) (hr : Room k X.A) (hx : ∀ σ, PassesAt CX X σ (E σ)) (ha : PA X (e :: es) t)
    (he : starEach (e :: es) X.env = (false, eval e X.env) :: starEach es X.env := by rfl) (hpl : (backTo pos (starEach es X.env)).any (·.1) = false := by rfl)
    (ht : eval (.Call (.Attribute o m apos) (e :: es) [] pos) X.env = (do
      let ov ← eval o X.env; standAt apos.atName; let (f, first) ← holding [ov] (getMethod ov m pl); callWith pos f first (backTo pos (starEach (e :: es) X.env)) (backToKw pos (keywordEach [] X.env))) := by rfl) :
    PE X (.Call (.Attribute o m apos) (e :: es) [] pos) (tMethS C m sp E ta t) := by
  obtain ⟨f, fd, ps, F, hm, hb⟩ := G
  refine ⟨fun pins s σ H Q I h => PySem.W.methodCall_KW (pl := pl) (thn (ho.run pins s σ H _ I h) fun u s1 ⟨y, H1, I1, ry, a, dx, fs, ey, ea, l, q⟩ => ?_) ht⟩
  subst ey
  cases (show u = Value.ref a from ry)
  refine getmeth_ok I1 ea c hm l (PySem.W.callWith_K (first := [.ref a]) (h₀ := X.base) I.ok.mod.kin hm.kp (thn (ha.run pos pins s1 σ H1 _ I1 q) fun us s2 ⟨vs, H2, I2, r, q2⟩ => ⟨I2.kIn, ?_⟩) he hpl)
  exact run_fnS (us := .ref a :: us) (vs := .ref a :: vs) F hr hb (hx σ) I2 (.cons rfl r) q2
theorem pe_gm0 (c : Cls X.K C) (G : GM X.prog X.w X.K X.mg X.base CX k C m sp) (ho : PE X o ta) (hr : Room k X.A) (hx : ∀ σ, PassesAt CX X σ (E σ))
    (ht : eval (.Call (.Attribute o m apos) [] [] pos) X.env = (do
      let ov ← eval o X.env; standAt apos.atName; let (f, first) ← holding [ov] (getMethod ov m pl); callWith pos f first (backTo pos (starEach [] X.env)) (backToKw pos (keywordEach [] X.env))) := by rfl) :
    PE X (.Call (.Attribute o m apos) [] [] pos) (tMethS C m sp E ta tNil) := by
  obtain ⟨f, fd, ps, F, hm, hb⟩ := G
  refine ⟨fun pins s σ H Q I h => PySem.W.methodCall_KW (pl := pl) (thn (ho.run pins s σ H _ I h) fun u s1 ⟨y, H1, I1, ry, a, dx, fs, ey, ea, l, q⟩ => ?_) ht⟩
  subst ey
  cases (show u = Value.ref a from ry)
  exact getmeth_ok I1 ea c hm l (PySem.W.callWith_K0 (first := [.ref a]) I1.kIn hm.kp (run_fnS (us := [.ref a]) (vs := [.ref a]) F hr hb (hx σ) I1 (.cons rfl .nil) q))
/-- C(e, ..), what is raised wished for at the caller's slots -/
def tMakeS (C : Addr) (sp : Sp) (E : L2.St → XK) (t : TA) : TE := fun σ H Q => t σ H fun vs H1 => ∀ x dx, H1 x = none → H1 dx = none → dx ≠ x →
  sp (.ref x :: vs) (upd (upd H1 dx (.own x)) x (.ins C dx [])) (fun v H2 => v = .non ∧ Q (.ref x) H2) (E σ)
theorem run_mkS {pins : List (Addr × Obj)} {σ : L2.St} {H : Hp} {s : Shared} {Q : VK} {us : List Value} {vs : List V} {f : Addr} {fd : FuncData} {ps : List Str} (M : Mk X.K C f) (F : FnOk X.prog X.w X.K X.mg X.base CX k f fd ps sp)
    (hr : Room (k + 1) X.A) (hb : Binds X.K fd ps []) (hx : PassesAt CX X σ (E σ)) (I : Inv X pins σ H s) (r : Vals vs us)
    (h : ∀ x dx, H x = none → H dx = none → dx ≠ x → sp (.ref x :: vs) (upd (upd H dx (.own x)) x (.ins C dx [])) (fun v H2 => v = .non ∧ Q (.ref x) H2) (E σ)) :
    wpAny (model X.prog X.w) X.A (call (.ref C) us) (EP X pins σ Q) X.xe s := by
  have z := h (s.heap.objs.size + 1) s.heap.objs.size (I.hok.fresh (Nat.le_succ _)) (I.hok.fresh (Nat.le_refl _)) (Nat.ne_of_lt (Nat.lt_succ_self _))
  have J := Inv.made (C := C) I
  have rr : Vals (V.ref (s.heap.objs.size + 1) :: vs) (Value.ref (s.heap.objs.size + 1) :: us) := .cons rfl r
  have len : (Value.ref (s.heap.objs.size + 1) :: us).length = ps.length := rr.length.symm.trans (F.len _ _ _ _ z)
  have b := hb _ (Value.ref (s.heap.objs.size + 1) :: us) J.kIn (by rw [List.append_nil]; exact len)
  rw [List.append_nil] at b
  refine wpAny_call (make_map (f := f) I.kIn M.makes M.init (beq_iff_eq.mp M.fn) (codeAny_mono (F.run _ X.stack _ _ _ _ _ _ _ (hr.make C us []) (J.env0.make C us []) b rr z) fun res s' hq => ?_))
  cases res with
  | error e => exact hx pins _ _ e s' J hq
  | ok fl =>
    cases fl with
    | ret u =>
      obtain ⟨v, H', I3, rv, ev, q3⟩ := J.after hq
      subst ev
      exact ⟨rv, V.ref (s.heap.objs.size + 1), H', I3, rfl, q3⟩
    | next => cases hq
    | brk => cases hq
    | cont => cases hq
theorem pe_gc (G : GC X.prog X.w X.K X.mg X.base CX k x C sp) (hr : Room (k + 1) X.A) (hx : ∀ σ, PassesAt CX X σ (E σ)) (ha : PA X (e :: es) t) (hg : Gl X x := by rfl)
    (hdb : (x == ("__debug__" : Str)) = false := by decide) (he : starEach (e :: es) X.env = (false, eval e X.env) :: starEach es X.env := by rfl) (hpl : (backTo pos (starEach es X.env)).any (·.1) = false := by rfl) :
    PE X (.Call (.Name x p) (e :: es) [] pos) (tMakeS C sp E t) := by
  obtain ⟨f, fd, ps, F, M, hm, hb⟩ := G
  refine ⟨fun pins s σ H Q I h => wpAny_Call_Name_kw (ld_glob I hg hm ?_ hdb)⟩
  exact PySem.W.callWith_K (h₀ := X.base) I.ok.mod.kin M.kp (thn (ha.run pos pins s σ H _ I h) fun us s1 ⟨vs, H1, I1, r, q⟩ => ⟨I1.kIn, run_mkS M F hr hb (hx σ) I1 r q⟩) he hpl
theorem pe_gc0 (G : GC X.prog X.w X.K X.mg X.base CX k x C sp) (hr : Room (k + 1) X.A) (hx : ∀ σ, PassesAt CX X σ (E σ)) (hg : Gl X x := by rfl)
    (hdb : (x == ("__debug__" : Str)) = false := by decide) : PE X (.Call (.Name x p) [] [] pos) (tMakeS C sp E tNil) := by
  obtain ⟨f, fd, ps, F, M, hm, hb⟩ := G
  refine ⟨fun pins s σ H Q I h => wpAny_Call_Name_kw (ld_glob I hg hm ?_ hdb)⟩
  exact PySem.W.callWith_K0 I.kIn M.kp (run_mkS (us := []) M F hr hb (hx σ) I .nil h)
end

/-! ### heaps: what a step keeps -/
/-- what never changes -/
def Fix : HO → Prop
  | .tup _ => True
  | .frz _ _ => True
  | _ => False
/-- all that was tracked is as it was, but at F (where what never changes is kept too) -/
def Kp (F : Addr → Prop) (H H' : Hp) : Prop := ∀ b o, H b = some o → (F b → Fix o) → H' b = some o
abbrev F0 : Addr → Prop := fun _ => False
abbrev F1 (a : Addr) : Addr → Prop := fun b => b = a
theorem Kp.refl {F : Addr → Prop} (H : Hp) : Kp F H H := fun _ _ h _ => h
theorem Kp.get {F : Addr → Prop} {H H' : Hp} {b : Addr} {o : HO} (s : Kp F H H') (h : H b = some o) (n : ¬ F b) : H' b = some o := s b o h fun z => (n z).elim
theorem Kp.fix {F : Addr → Prop} {H H' : Hp} {b : Addr} {o : HO} (s : Kp F H H') (h : H b = some o) (n : Fix o) : H' b = some o := s b o h fun _ => n
theorem Kp.tup {F : Addr → Prop} {H H' : Hp} {b : Addr} {xs : List V} (s : Kp F H H') (h : H b = some (.tup xs)) : H' b = some (.tup xs) := s.fix h trivial
theorem Kp.free {F : Addr → Prop} {H H' : Hp} {b : Addr} (s : Kp F H H') (h : H' b = none) (n : ¬ F b) : H b = none := by
  cases e : H b with
  | none => rfl
  | some o => rw [s.get e n] at h; cases h
theorem Kp.mono {F G : Addr → Prop} {H H' : Hp} (s : Kp F H H') (h : ∀ b, F b → G b ∨ H b = none) : Kp G H H' := fun b o e n => s b o e fun f => by
  rcases h b f with g | g
  · exact n g
  · rw [e] at g; cases g
theorem Kp.trans {F G : Addr → Prop} {H H1 H2 : Hp} (s : Kp F H H1) (t : Kp G H1 H2) (h : ∀ b, G b → F b ∨ H b = none) : Kp F H H2 := fun b o e n =>
  t b o (s b o e n) fun g => by
    rcases h b g with f | f
    · exact n f
    · rw [e] at f; cases f
theorem Kp.new {H : Hp} {p : Addr} {o : HO} (h : H p = none) : Kp F0 H (upd H p o) := fun b u e _ => by
  rw [upd_ne (ne_of_none e h)]
  exact e
theorem Kp.put {H : Hp} {l : Addr} {o u : HO} (h : H l = some u) (n : ¬ Fix u) : Kp (F1 l) H (upd H l o) := fun b v e k => by
  have nb : b ≠ l := fun z => by
    subst z; rw [h] at e; cases e
    exact n (k rfl)
  rw [upd_ne nb]
  exact e
theorem upd_id {H : Hp} {a : Addr} {o : HO} (h : H a = some o) : upd H a o = H := by
  funext b; unfold upd
  by_cases e : b = a
  · rw [if_pos e, e, h]
  · rw [if_neg e]
theorem Kp.same {H H' : Hp} (s : Same H H') : Kp F0 H H' := fun b o e _ => s b o e
theorem Kp.to_same {H H' : Hp} (s : Kp F0 H H') : Same H H' := fun b o e => s b o e fun z => z.elim
theorem Kp.sqT {F : Addr → Prop} {K : PySem.W.Frag} {H H' : Hp} {a : Addr} {xs : List V} (s : Kp F H H') (h : SqT K H a xs) : SqT K H' a xs := by
  rcases h with (h | ⟨o, h⟩) | h
  · exact .inl (.inl (s.fix h trivial))
  · exact .inl (.inr ⟨o, s.fix h trivial⟩)
  · exact .inr h
theorem Kp.sqL {F : Addr → Prop} {K : PySem.W.Frag} {H H' : Hp} {a : Addr} {xs : List V} (s : Kp F H H') (h : SqL K H a xs) (n : ¬ F a) : SqL K H' a xs := by
  rcases h with (h | ⟨o, h⟩) | h
  · exact .inl (.inl (s.get h n))
  · exact .inl (.inr ⟨o, s.fix h trivial⟩)
  · exact .inr h

/-- the script: read, never written -/
def Sc (K : PySem.W.Frag) (H : Hp) (sc : Addr) (ns : List Int) : Prop := (∃ o, H sc = some (.frz o (.lst (ns.map V.int)))) ∨ ∀ H', SqL K H' sc (ns.map V.int)
theorem Sc.sq {K : PySem.W.Frag} {H : Hp} {sc : Addr} {ns : List Int} (h : Sc K H sc ns) : SqL K H sc (ns.map V.int) := by
  rcases h with ⟨o, h⟩ | h
  · exact .inl (.inr ⟨o, h⟩)
  · exact h H
theorem Sc.kp {K : PySem.W.Frag} {F : Addr → Prop} {H H' : Hp} {sc : Addr} {ns : List Int} (s : Kp F H H') (h : Sc K H sc ns) : Sc K H' sc ns := by
  rcases h with ⟨o, h⟩ | h
  · exact .inl ⟨o, s.fix h trivial⟩
  · exact .inr h

theorem Sc.of {K : PySem.W.Frag} {H : Hp} {a : Addr} {ns : List Int} (o : Only H) (h : SqL K H a (ns.map V.int)) : Sc K H a ns := by
  rcases h with (h | ⟨f, h⟩) | h
  · rcases o a with e | ⟨f, xs, e⟩
    · rw [h] at e; cases e
    · rw [h] at e; cases e
  · exact .inl ⟨f, h⟩
  · exact .inr fun _ => .inr h
/-- a new list, a new tuple -/
def rNewL (xs : List V) (H : Hp) (Q : VK) : Prop := xs.length ≤ sizeLine ∧ ∀ p, H p = none → Q (.ref p) (upd H p (.lst xs))
def rNewT (xs : List V) (H : Hp) (Q : VK) : Prop := xs.length ≤ sizeLine ∧ ∀ p, H p = none → Q (.ref p) (upd H p (.tup xs))

/-! ### readings under names of our own, and the steps that run them -/
section
variable {K : PySem.W.Frag} {σ : L2.St} {H : Hp} {Q : VK} {D : Ends} {ta tb tc te : TE} {t u : TS} {tt tt' : TT} {x y z v : V} {i : Nat} {g : TG} {r r' : R2} {vs : List V} {a p : Addr}
theorem x_seq (h : t { D with nx := u D } σ H) : tSeq t u D σ H := h
theorem x_cut (M : L2.St → Hp → Prop) (h : t { D with nx := M } σ H) (h2 : ∀ σ' H', M σ' H' → u D σ' H') : C8.tCut t u D σ H := ⟨M, h, h2⟩
theorem x_next (h : D.nx σ H) : tNext D σ H := h
theorem x_asg (h : te σ H fun x H1 => g x σ H1 D.nx) : tAsg te g D σ H := h
theorem x_drop (h : te σ H fun _ H1 => D.nx σ H1) : tDrop te D σ H := h
theorem x_ret (h : te σ H D.rt) : tRet te D σ H := h
theorem x_retN (h : D.rt .non H) : tRetN D σ H := h
theorem x_ifS (h : tt σ H fun b H1 => if b = true then t D σ H1 else u D σ H1) : tIfS tt t u D σ H := h
theorem x_var (e : σ[i]? = some (some v)) (h : Q v H) : tVar i σ H Q := ⟨v, e, h⟩
theorem x_c (h : Q v H) : tC v σ H Q := h
theorem x_op (h : ta σ H fun x H1 => tb σ H1 fun y H2 => r x y H2 Q) : tOp r ta tb σ H Q := h
theorem x_un {r : V → Hp → VK → Prop} (h : ta σ H fun x H1 => r x H1 Q) : tUn r ta σ H Q := h
theorem x_neg {f : Int → V} {m : Int} (h : Q (f m) H) : rU f (.int m) H Q := ⟨m, rfl, h⟩
theorem x_I0 {f : Int → Int → V} {m n : Int} (h : Q (f m n) H) : rI0 f (.int m) (.int n) H Q := ⟨m, n, rfl, rfl, h⟩
theorem x_I {C : Int → Int → Prop} {f : Int → Int → V} {m n : Int} (c : C m n) (h : Q (f m n) H) : rI C f (.int m) (.int n) H Q := ⟨m, n, rfl, rfl, c, h⟩
theorem x_eqI {m n : Int} (h : Q (.bl (decide (m = n))) H) : rEq (.int m) (.int n) H Q := ⟨rfl, by rw [show decide (V.int m = V.int n) = decide (m = n) by simp]; exact h⟩
theorem x_neI {m n : Int} (h : Q (.bl (!decide (m = n))) H) : rNe (.int m) (.int n) H Q := ⟨rfl, by rw [show decide (V.int m = V.int n) = decide (m = n) by simp]; exact h⟩
theorem x_eqS {m n : Str} (h : Q (.bl (decide (m = n))) H) : rEq (.str m) (.str n) H Q := ⟨rfl, by rw [show decide (V.str m = V.str n) = decide (m = n) by simp]; exact h⟩
theorem x_neS {m n : Str} (h : Q (.bl (!decide (m = n))) H) : rNe (.str m) (.str n) H Q := ⟨rfl, by rw [show decide (V.str m = V.str n) = decide (m = n) by simp]; exact h⟩
theorem x_eqB {m n : Bool} (h : Q (.bl (decide (m = n))) H) : rEq (.bl m) (.bl n) H Q := ⟨rfl, by rw [show decide (V.bl m = V.bl n) = decide (m = n) by simp]; exact h⟩
theorem x_neB {m n : Bool} (h : Q (.bl (!decide (m = n))) H) : rNe (.bl m) (.bl n) H Q := ⟨rfl, by rw [show decide (V.bl m = V.bl n) = decide (m = n) by simp]; exact h⟩
theorem x_tst {R : Bool → Hp → Prop} (h : te σ H fun x H1 => ∃ k, x = .bl k ∧ R k H1) : tTest te σ H R := h
theorem x_tB {R : Bool → Hp → Prop} (h : te σ H fun x H1 => ∃ k, x = .bl k ∧ R k H1) : tB te σ H R := h
theorem x_bl {b : Bool} {R : Bool → Prop} (h : R b) : ∃ k, V.bl b = .bl k ∧ R k := ⟨b, rfl, h⟩
theorem x_ifNT {A B : Prop} (h : B) : if (!true) = true then A else B := h
theorem x_ifNF {A B : Prop} (h : A) : if (!false) = true then A else B := h
theorem x_yes {R : Bool → Hp → Prop} (h : R true H) : tYes σ H R := h
theorem x_ifTT {A B : Prop} (h : A) : if true = true then A else B := by rw [if_pos rfl]; exact h
theorem x_ifFF {A B : Prop} (h : B) : if false = true then A else B := by rw [if_neg Bool.false_ne_true]; exact h
theorem x_bnot {b : Bool} {R : Bool → Prop} (h : R (!b)) : ∃ k, V.bl (!b) = .bl k ∧ R k := ⟨_, rfl, h⟩
theorem x_and {R : Bool → Hp → Prop} (h : tt σ H fun c H1 => if c = true then tt' σ H1 R else R false H1) : tAnd tt tt' σ H R := h
theorem x_or {R : Bool → Hp → Prop} (h : tt σ H fun c H1 => if c = true then R true H1 else tt' σ H1 R) : tOr tt tt' σ H R := h
theorem x_not {R : Bool → Hp → Prop} (h : tt σ H fun c H1 => R (!c) H1) : tNot tt σ H R := h
theorem x_andV (h : ta σ H fun x H1 => ∃ c, x = .bl c ∧ if c = true then tb σ H1 Q else Q (.bl false) H1) : tAndV ta tb σ H Q := h
theorem x_orV (h : ta σ H fun x H1 => ∃ c, x = .bl c ∧ if c = true then Q (.bl true) H1 else tb σ H1 Q) : tOrV ta tb σ H Q := h
theorem x_notV (h : ta σ H fun x H1 => ∃ c, x = .bl c ∧ Q (.bl (!c)) H1) : tNotV ta σ H Q := h
theorem x_ifE (h : tt σ H fun c H1 => if c = true then ta σ H1 Q else tb σ H1 Q) : tIf tt ta tb σ H Q := h
theorem x_ch (h : ta σ H fun x H1 => tb σ H1 fun y H2 => r x y H2 fun z H3 => ∃ k, z = .bl k ∧ (if k = true then tc σ H3 fun w' H4 => r' y w' H4 Q else Q (.bl false) H3)) : tChain r r' ta tb tc σ H Q := h
theorem x_nil {R : List V → Hp → Prop} (h : R [] H) : tNil σ H R := h
theorem x_cons {tr : TA} {R : List V → Hp → Prop} (h : ta σ H fun x H1 => tr σ H1 fun xs H2 => R (x :: xs) H2) : tCons ta tr σ H R := h
theorem x_tup {ts : TA} (h : ts σ H fun xs H1 => rNewT xs H1 Q) : tTup ts σ H Q := h
theorem x_lst {ts : TA} (h : ts σ H fun xs H1 => rNewL xs H1 Q) : tLst ts σ H Q := h
theorem x_newL {xs : List V} (h : ∀ p H1, H p = none → Kp F0 H H1 → H1 p = some (.lst xs) → Q (.ref p) H1) (h1 : Nat.ble xs.length 1000 = true := by rfl) : rNewL xs H Q := ⟨Nat.le_trans (Nat.le_of_ble_eq_true h1) (by decide), fun p hp => h p _ hp (Kp.new hp) upd_same⟩
theorem x_newT {xs : List V} (h : ∀ p H1, H p = none → Kp F0 H H1 → H1 p = some (.tup xs) → Q (.ref p) H1) (h1 : Nat.ble xs.length 1000 = true := by rfl) : rNewT xs H Q := ⟨Nat.le_trans (Nat.le_of_ble_eq_true h1) (by decide), fun p hp => h p _ hp (Kp.new hp) upd_same⟩
theorem x_cb {rr : List V → Hp → VK → Prop} {ts : TA} (h : ts σ H fun vs H1 => rr vs H1 Q) : tCB rr ts σ H Q := h
theorem x_callS {sp : Sp} {E : L2.St → XK} {ts : TA} (h : ts σ H fun vs H1 => sp vs H1 Q (E σ)) : tCallS sp E ts σ H Q := h
theorem x_gn {R : L2.St → Hp → Prop} (h : R (σ.set i (some v)) H) : gName i v σ H R := h
/-- a[i], o[i] = v -/
theorem x_ixL {xs : List V} {j : Int} (h : SqL K H p xs) (e : atI xs j = some v) (q : Q v H) : rIxL K (.ref p) (.int j) H Q := ⟨p, xs, j, v, rfl, rfl, h, e, q⟩
theorem x_ixT {xs : List V} {j : Int} (h : SqT K H p xs) (e : atI xs j = some v) (q : Q v H) : rIxT K (.ref p) (.int j) H Q := ⟨p, xs, j, v, rfl, rfl, h, e, q⟩
theorem x_sub {R : L2.St → Hp → Prop} {s : TSet} (h : ta σ H fun o H1 => tb σ H1 fun i H2 => s o i v H2 fun H3 => R σ H3) : gSub ta tb s v σ H R := h
theorem x_setL {xs : List V} {k : Int} {j : Nat} {R : Hp → Prop} (h : H p = some (.lst xs)) (e : ixN xs.length k = some j) (q : R (upd H p (.lst (xs.set j v)))) : rSetL (.ref p) (.int k) v H R := ⟨p, xs, k, j, rfl, rfl, h, e, q⟩
end
/-- len(xs) -/
def rLenQ (K : PySem.W.Frag) : List V → Hp → VK → Prop := fun xs H Q => ∃ p ys, xs = [.ref p] ∧ (SqL K H p ys ∨ SqT K H p ys) ∧ Q (.int ys.length) H
theorem c_len {X : Cx} : CallR X (.builtin "len") (rLenQ X.K) := call_len_seq
theorem x_lenL {K : PySem.W.Frag} {H : Hp} {Q : VK} {p : Addr} {ys : List V} (h : SqL K H p ys) (q : Q (.int ys.length) H) : rLenQ K [.ref p] H Q := ⟨p, ys, rfl, .inl h, q⟩
theorem x_lenT {K : PySem.W.Frag} {H : Hp} {Q : VK} {p : Addr} {ys : List V} (h : SqT K H p ys) (q : Q (.int ys.length) H) : rLenQ K [.ref p] H Q := ⟨p, ys, rfl, .inr h, q⟩
/-- int(n), int(flag) -/
def rIntQ : List V → Hp → VK → Prop := fun xs H Q => (∃ i, xs = [.int i] ∧ Q (.int i) H) ∨ ∃ k, xs = [.bl k] ∧ Q (.int (if k then 1 else 0)) H
theorem c_int {X : Cx} : CallR X (.type "int") rIntQ := call_int1
theorem x_intI {H : Hp} {Q : VK} {i : Int} (q : Q (.int i) H) : rIntQ [.int i] H Q := .inl ⟨i, rfl, q⟩
theorem x_intB {H : Hp} {Q : VK} {k : Bool} (q : Q (.int (if k then 1 else 0)) H) : rIntQ [.bl k] H Q := .inr ⟨k, rfl, q⟩
theorem ite_dec {p : Prop} [Decidable p] {A B : Prop} (h1 : p → A) (h2 : ¬ p → B) : if decide p = true then A else B := by
  by_cases h : p
  · rw [if_pos (decide_eq_true h)]; exact h1 h
  · rw [if_neg (by simpa using h)]; exact h2 h
theorem ite_ndec {p : Prop} [Decidable p] {A B : Prop} (h1 : ¬ p → A) (h2 : p → B) : if (!decide p) = true then A else B := by
  by_cases h : p
  · rw [if_neg (by simp [h])]; exact h2 h
  · rw [if_pos (by simp [h])]; exact h1 h
theorem ite_bool {b : Bool} {A B : Prop} (h1 : b = true → A) (h2 : b = false → B) : if b = true then A else B := by
  cases b
  · rw [if_neg Bool.false_ne_true]; exact h2 rfl
  · rw [if_pos rfl]; exact h1 rfl
/-- an item by its place -/
theorem atI_at {α : Type} {xs : List α} {j : Int} {v : α} (k : Nat) (e : j = (k : Int)) (h : xs[k]? = some v) : atI xs j = some v := by subst e; exact atI_nat h
theorem ixN_at {n : Nat} {j : Int} (k : Nat) (e : j = (k : Int)) (h : k < n) : ixN n j = some k := by
  subst e; unfold ixN
  rw [if_pos (by omega), if_pos (by omega)]; rfl
theorem fdiv_ok {a n : Int} (h0 : 0 < n) (h1 : n < 2 ^ 64) : CDivW a n := wide_div (b := 64) h0 (by omega) (by decide) (by decide)

/-! ### loops -/
/-- J walks xs while G holds -/
structure Wk (J : It) (G : Hp → Prop) (xs : List V) : Prop where
  go : ∀ i H, i < xs.length → G H → J.go i H
  yld : ∀ i H x H', i < xs.length → G H → J.yld i H x H' → H = H' ∧ xs[i]? = some x
  stop : ∀ H, G H → J.stop xs.length H
theorem Wk.list {K : PySem.W.Frag} {a : Addr} {xs : List V} : Wk (Itl K a) (fun H => SqL K H a xs) xs where
  go := fun i H h g => ⟨xs, xs[i], g, by simp [h]⟩
  yld := fun i H x H' _ g y => ⟨y.1.symm, y.2 xs g⟩
  stop := fun H g => ⟨xs, g, Nat.le_refl _⟩
theorem Wk.tup {K : PySem.W.Frag} {a : Addr} {xs : List V} : Wk (Itt K a) (fun H => SqT K H a xs) xs where
  go := fun i H h g => ⟨xs, xs[i], g, by simp [h]⟩
  yld := fun i H x H' _ g y => ⟨y.1.symm, y.2 xs g⟩
  stop := fun H g => ⟨xs, g, Nat.le_refl _⟩
def rgl (lo : Int) (n : Nat) : List V := (List.range n).map fun i => V.int (lo + (i : Nat))
theorem rgl_len {lo : Int} {n : Nat} : (rgl lo n).length = n := by unfold rgl; simp
theorem rgl_at {lo : Int} {n i : Nat} {x : V} (h : (rgl lo n)[i]? = some x) : i < n ∧ x = .int (lo + (i : Nat)) := by
  unfold rgl at h
  rw [List.getElem?_map] at h
  by_cases hi : i < n
  · rw [List.getElem?_range hi] at h
    exact ⟨hi, (Option.some.inj h).symm⟩
  · rw [List.getElem?_eq_none (by simpa using hi)] at h
    cases h
theorem Wk.rng {lo : Int} {n : Nat} : Wk (Itr lo n) (fun _ => True) (rgl lo n) where
  go := fun i H h _ => by rw [rgl_len] at h; exact h
  yld := fun i H x H' h _ y => by
    rw [rgl_len] at h
    refine ⟨y.1.symm, ?_⟩
    unfold rgl
    rw [List.getElem?_map, List.getElem?_range h, y.2]; rfl
  stop := fun H _ => by show n ≤ _; rw [rgl_len]; exact Nat.le_refl _
theorem wfor {J : It} {G : Hp → Prop} {xs : List V} {g : TG} {tb : TS} {D : Ends} {σ : L2.St} {H : Hp} (W : Wk J G xs) (Pv : Nat → L2.St → Hp → Prop) (h0 : Pv 0 σ H) (hG : ∀ i σ H, Pv i σ H → G H)
    (hs : ∀ i x σ H, xs[i]? = some x → Pv i σ H → g x σ H fun σ2 H2 => tb { D with nx := Pv (i + 1), ct := Pv (i + 1), bk := D.nx } σ2 H2) (hd : ∀ σ H, Pv xs.length σ H → D.nx σ H) :
    ∃ W : Nat → Nat → L2.St → Hp → Prop, (∃ m, W 0 m σ H) ∧ ∀ i m σ H, W i m σ H →
      (J.stop i H ∧ D.nx σ H) ∨ (J.go i H ∧ ∃ N : L2.St → Hp → Prop, (∀ σ' H', N σ' H' → ∃ m', m' < m ∧ W (i + 1) m' σ' H') ∧ ∀ x H', J.yld i H x H' → g x σ H' fun σ2 H2 => tb { D with nx := N, ct := N, bk := D.nx } σ2 H2) := by
  refine ⟨fun i m σ H => m = xs.length - i ∧ i ≤ xs.length ∧ Pv i σ H, ⟨_, rfl, Nat.zero_le _, h0⟩, ?_⟩
  rintro i m σ H ⟨rfl, hi, p⟩
  by_cases hlt : i < xs.length
  · refine .inr ⟨W.go i H hlt (hG _ _ _ p), Pv (i + 1), fun σ' H' p' => ⟨xs.length - (i + 1), by omega, rfl, hlt, p'⟩, fun x H' y => ?_⟩
    obtain ⟨rfl, e⟩ := W.yld i H x H' hlt (hG _ _ _ p) y
    exact hs i x σ _ e p
  · obtain rfl : i = xs.length := by omega
    exact .inl ⟨W.stop H (hG _ _ _ p), hd σ H p⟩
/-- a comprehension: F what its turns may change, S what stays true of the heap, Pv of the list so far -/
theorem wlc {J : It} {G : Hp → Prop} {xs : List V} {g : TG} {tt : TT} {te : TE} {vs : List Nat} {σ : L2.St} {H0 : Hp} {Qd : Addr → Hp → Prop} (W : Wk J G xs) (F : Addr → Prop) (S : Hp → Prop) (Pv : Nat → List V → Prop)
    (hF : ∀ b, F b → H0 b ≠ none) (hz : xs.length ≤ 100000) (hG : ∀ H', S H' → Kp F H0 H' → G H') (h0 : Pv 0 []) (hS : S H0) (hSt : ∀ D, H0 D = none → ∀ H' o, (∀ u, H' D = some u → ¬ Fix u) → S H' → S (upd H' D o))
    (hs : ∀ i x acc H' (R : V → Hp → Prop) (R0 : Hp → Prop), xs[i]? = some x → Pv i acc → S H' → Kp F H0 H' → (∀ y H4, Kp F H' H4 → S H4 → Pv (i + 1) (acc ++ [y]) → R y H4) → (∀ H4, Kp F H' H4 → S H4 → Pv (i + 1) acc → R0 H4) →
      g x (wipe σ vs) H' fun σ2 H2 => wipe σ2 vs = wipe σ vs ∧ tt σ2 H2 fun b H3 => if b = true then te σ2 H3 R else R0 H3)
    (hd : ∀ D H' acc, H0 D = none → H' D = some (.lst acc) → Pv xs.length acc → S H' → Kp F H0 H' → Qd D H') :
    ∀ D, H0 D = none → ∃ W : Nat → Nat → Hp → Prop, (∃ m, W 0 m (upd H0 D (.lst []))) ∧ ∀ i m H, W i m H →
      (J.stop i H ∧ Qd D H) ∨ (J.go i H ∧ ∃ Nx : Hp → Prop, (∀ H', Nx H' → ∃ m', m' < m ∧ W (i + 1) m' H') ∧ ∀ x H', J.yld i H x H' → g x (wipe σ vs) H' fun σ2 H2 => wipe σ2 vs = wipe σ vs ∧ tt σ2 H2 fun b H3 =>
        if b = true then te σ2 H3 fun y H4 => ∃ acc, H4 D = some (.lst acc) ∧ acc.length < sizeLine ∧ Nx (upd H4 D (.lst (acc ++ [y]))) else Nx H3) := by
  intro D hD
  have nFD : ¬ F D := fun z => hF D z hD
  refine ⟨fun i m H' => m = xs.length - i ∧ i ≤ xs.length ∧ ∃ acc, H' D = some (.lst acc) ∧ acc.length ≤ i ∧ Pv i acc ∧ S H' ∧ Kp F H0 H',
    ⟨_, rfl, Nat.zero_le _, [], upd_same, Nat.le_refl _, h0, hSt D hD _ _ (fun u z => by rw [hD] at z; cases z) hS, (Kp.new hD).mono fun b z => z.elim⟩, ?_⟩
  rintro i m H ⟨rfl, hi, acc, hacc, hl, p, hSH, kp⟩
  by_cases hlt : i < xs.length
  · refine .inr ⟨W.go i H hlt (hG _ hSH kp), _, fun H' z => ⟨xs.length - (i + 1), by omega, z⟩, fun x H' y => ?_⟩
    obtain ⟨rfl, e⟩ := W.yld i H x H' hlt (hG _ hSH kp) y
    refine hs i x acc _ _ _ e p hSH kp (fun y H4 k4 s4 p4 => ?_) (fun H4 k4 s4 p4 => ?_)
    · refine ⟨acc, k4.get hacc nFD, Nat.lt_of_le_of_lt (Nat.le_trans hl (Nat.le_trans hi hz)) (by decide), rfl, hlt, acc ++ [y], upd_same, by rw [List.length_append, List.length_singleton]; omega, p4, hSt D hD _ _ (fun u z => by rw [k4.get hacc nFD] at z; cases z; exact id) s4, ?_⟩
      intro b o hb n
      rw [upd_ne (ne_of_none hb hD)]
      exact k4 b o (kp b o hb n) n
    · exact ⟨rfl, hlt, acc, k4.get hacc nFD, by omega, p4, s4, fun b o hb n => k4 b o (kp b o hb n) n⟩
  · obtain rfl : i = xs.length := by omega
    exact .inl ⟨W.stop H (hG _ hSH kp), hd D H acc hD hacc p hSH kp⟩
/-- a comprehension that changes nothing and keeps all: the list ys comes -/
theorem wlcP {J : It} {G : Hp → Prop} {xs ys : List V} {g : TG} {te : TE} {vs : List Nat} {σ : L2.St} {H0 : Hp} {Qd : Addr → Hp → Prop} (W : Wk J G xs) (hl : ys.length = xs.length) (hz : xs.length ≤ 100000) (hG : ∀ H', Kp F0 H0 H' → G H')
    (hs : ∀ (i : Nat) x y H' (R : V → Hp → Prop), xs[i]? = some x → ys[i]? = some y → Kp F0 H0 H' → (∀ H4, Kp F0 H' H4 → R y H4) → g x (wipe σ vs) H' fun σ2 H2 => wipe σ2 vs = wipe σ vs ∧ te σ2 H2 R)
    (hd : ∀ D H', H0 D = none → Kp F0 H0 H' → H' D = some (.lst ys) → Qd D H') :
    ∀ D, H0 D = none → ∃ W : Nat → Nat → Hp → Prop, (∃ m, W 0 m (upd H0 D (.lst []))) ∧ ∀ i m H, W i m H →
      (J.stop i H ∧ Qd D H) ∨ (J.go i H ∧ ∃ Nx : Hp → Prop, (∀ H', Nx H' → ∃ m', m' < m ∧ W (i + 1) m' H') ∧ ∀ x H', J.yld i H x H' → g x (wipe σ vs) H' fun σ2 H2 => wipe σ2 vs = wipe σ vs ∧ tYes σ2 H2 fun b H3 =>
        if b = true then te σ2 H3 fun y H4 => ∃ acc, H4 D = some (.lst acc) ∧ acc.length < sizeLine ∧ Nx (upd H4 D (.lst (acc ++ [y]))) else Nx H3) := by
  refine wlc W F0 (fun _ => True) (fun i acc => acc = ys.take i) (fun b z => z.elim) hz (fun H' _ k => hG H' k) rfl trivial (fun _ _ _ _ _ _ => trivial) (fun i x acc H' R R0 e p _ kp h1 _ => ?_) (fun D H' acc hD hacc p _ kp => hd D H' hD kp (by rw [hacc, p, ← hl, List.take_length]))
  have hi : i < ys.length := by rw [hl]; exact (List.getElem?_eq_some_iff.mp e).1
  refine hs i x ys[i] H' R e (by simp [hi]) kp fun H4 k4 => h1 _ _ k4 trivial ?_
  rw [p, List.take_succ, List.getElem?_eq_getElem hi]; rfl

section
variable {K : PySem.W.Frag} {σ : L2.St} {H : Hp} {Q : VK} {D : Ends} {ta tb tc te : TE} {t u : TS} {tt tt' : TT} {x y z v : V} {i : Nat} {g : TG} {a p : Addr} {wi : TI} {ts : TA} {R : It → Hp → Prop}
theorem x_for (h : wi σ H fun J H1 => ∃ W : Nat → Nat → L2.St → Hp → Prop, (∃ m, W 0 m σ H1) ∧ ∀ i m σ H, W i m σ H →
    (J.stop i H ∧ D.nx σ H) ∨ (J.go i H ∧ ∃ N : L2.St → Hp → Prop, (∀ σ' H', N σ' H' → ∃ m', m' < m ∧ W (i + 1) m' σ' H') ∧ ∀ x H', J.yld i H x H' → g x σ H' fun σ2 H2 => t { D with nx := N, ct := N, bk := D.nx } σ2 H2)) : tFor wi g t D σ H := h
theorem x_lc {vs : List Nat} (h : wi σ H fun J H1 => ∀ D, H1 D = none → ∃ W : Nat → Nat → Hp → Prop, (∃ m, W 0 m (upd H1 D (.lst []))) ∧ ∀ i m H, W i m H →
    (J.stop i H ∧ Q (.ref D) H) ∨ (J.go i H ∧ ∃ Nx : Hp → Prop, (∀ H', Nx H' → ∃ m', m' < m ∧ W (i + 1) m' H') ∧ ∀ x H', J.yld i H x H' → g x (wipe σ vs) H' fun σ2 H2 => wipe σ2 vs = wipe σ vs ∧ tt σ2 H2 fun b H3 =>
      if b = true then te σ2 H3 fun y H4 => ∃ acc, H4 D = some (.lst acc) ∧ acc.length < sizeLine ∧ Nx (upd H4 D (.lst (acc ++ [y]))) else Nx H3)) : tLc wi g tt te vs σ H Q := h
theorem x_rng1 (h : ts σ H fun vs H1 => ∃ j : Int, vs = [.int j] ∧ -(2 ^ 62) ≤ j ∧ j < 2 ^ 62 ∧ R (Itr 0 j.toNat) H1) : iRng1 ts σ H R := h
theorem x_rg1 {S : Int → Prop} {n : Int} (h1 : -(2 ^ 62) ≤ n) (h2 : n < 2 ^ 62) (h : S n) : ∃ j : Int, [V.int n] = [.int j] ∧ -(2 ^ 62) ≤ j ∧ j < 2 ^ 62 ∧ S j := ⟨n, rfl, h1, h2, h⟩
theorem x_rng2 (h : ts σ H fun vs H1 => ∃ i j : Int, vs = [.int i, .int j] ∧ (-(2 ^ 62) ≤ i ∧ i < 2 ^ 62 ∧ -(2 ^ 62) ≤ j ∧ j < 2 ^ 62) ∧ R (Itr i (j - i).toNat) H1) : iRng2 ts σ H R := h
theorem x_rg2 {S : Int → Int → Prop} {m n : Int} (h1 : -(2 ^ 62) ≤ m ∧ m < 2 ^ 62 ∧ -(2 ^ 62) ≤ n ∧ n < 2 ^ 62) (h : S m n) : ∃ i j : Int, [V.int m, V.int n] = [.int i, .int j] ∧ (-(2 ^ 62) ≤ i ∧ i < 2 ^ 62 ∧ -(2 ^ 62) ≤ j ∧ j < 2 ^ 62) ∧ S i j := ⟨m, n, rfl, h1, h⟩
theorem x_iL (h : te σ H fun x H1 => ∃ a, x = .ref a ∧ (∃ xs, SqL K H1 a xs) ∧ R (Itl K a) H1) : iList K te σ H R := h
theorem x_iL1 {xs : List V} {S : Addr → Prop} (h : SqL K H a xs) (q : S a) : ∃ b, V.ref a = .ref b ∧ (∃ xs, SqL K H b xs) ∧ S b := ⟨a, rfl, ⟨xs, h⟩, q⟩
theorem x_iT (h : te σ H fun x H1 => ∃ a, x = .ref a ∧ (∃ xs, SqT K H1 a xs) ∧ R (Itt K a) H1) : iTup K te σ H R := h
theorem x_iT1 {xs : List V} {S : Addr → Prop} (h : SqT K H a xs) (q : S a) : ∃ b, V.ref a = .ref b ∧ (∃ xs, SqT K H b xs) ∧ S b := ⟨a, rfl, ⟨xs, h⟩, q⟩
theorem x_sum {ns : List Int} (h : SqL K H a (ns.map V.int)) (q : Q (.int ns.sum) H) : rSum K [.ref a] H Q := ⟨a, ns, rfl, h, q⟩
theorem x_max {ns : List Int} (h : SqL K H a (ns.map V.int)) (h0 : 0 < ns.length) (q : ∀ m, m ∈ ns → (∀ y, y ∈ ns → y ≤ m) → Q (.int m) H) : rMax K [.ref a] H Q := ⟨a, ns, rfl, h, h0, q⟩
theorem x_min {ns : List Int} (h : SqL K H a (ns.map V.int)) (h0 : 0 < ns.length) (q : ∀ m, m ∈ ns → (∀ y, y ∈ ns → m ≤ y) → Q (.int m) H) : rMin K [.ref a] H Q := ⟨a, ns, rfl, h, h0, q⟩
end
/-- abs, max, min of two -/
def rAbsQ : List V → Hp → VK → Prop := fun xs H Q => ∃ i, xs = [.int i] ∧ Q (.int (if i < 0 then -i else i)) H
theorem c_abs {X : Cx} : CallR X (.builtin "abs") rAbsQ := call_abs
theorem x_abs {H : Hp} {Q : VK} {i : Int} (q : Q (.int (if i < 0 then -i else i)) H) : rAbsQ [.int i] H Q := ⟨i, rfl, q⟩
def rMax2Q : List V → Hp → VK → Prop := fun xs H Q => ∃ i j, xs = [.int i, .int j] ∧ Q (.int (if j > i then j else i)) H
theorem c_max2 {X : Cx} (hc : X.calm = true) : CallR X (.builtin "max") rMax2Q := call_max2 hc
theorem x_max2 {H : Hp} {Q : VK} {i j : Int} (q : Q (.int (max i j)) H) : rMax2Q [.int i, .int j] H Q := ⟨i, j, rfl, by rw [show (if j > i then j else i) = max i j by split <;> omega]; exact q⟩
def rMin2Q : List V → Hp → VK → Prop := fun xs H Q => ∃ i j, xs = [.int i, .int j] ∧ Q (.int (if j < i then j else i)) H
theorem c_min2 {X : Cx} (hc : X.calm = true) : CallR X (.builtin "min") rMin2Q := call_min2 hc
theorem x_min2 {H : Hp} {Q : VK} {i j : Int} (q : Q (.int (min i j)) H) : rMin2Q [.int i, .int j] H Q := ⟨i, j, rfl, by rw [show (if j < i then j else i) = min i j by split <;> omega]; exact q⟩
/-- list(xs), tuple(xs) -/
def rLstQ (K : PySem.W.Frag) : List V → Hp → VK → Prop := fun xs H Q => ∃ p ys, xs = [.ref p] ∧ (SqL K H p ys ∨ SqT K H p ys) ∧ ∀ l, H l = none → Q (.ref l) (upd H l (.lst ys))
theorem c_list {X : Cx} : CallR X (.type "list") (rLstQ X.K) := call_list_of
theorem x_lstL {K : PySem.W.Frag} {H : Hp} {Q : VK} {p : Addr} {ys : List V} (h : SqL K H p ys) (q : ∀ l H1, H l = none → Kp F0 H H1 → H1 l = some (.lst ys) → Q (.ref l) H1) : rLstQ K [.ref p] H Q := ⟨p, ys, rfl, .inl h, fun l hl => q l _ hl (Kp.new hl) upd_same⟩
theorem x_lstT {K : PySem.W.Frag} {H : Hp} {Q : VK} {p : Addr} {ys : List V} (h : SqT K H p ys) (q : ∀ l H1, H l = none → Kp F0 H H1 → H1 l = some (.lst ys) → Q (.ref l) H1) : rLstQ K [.ref p] H Q := ⟨p, ys, rfl, .inr h, fun l hl => q l _ hl (Kp.new hl) upd_same⟩
def rTupQ (K : PySem.W.Frag) : List V → Hp → VK → Prop := fun xs H Q => ∃ p ys, xs = [.ref p] ∧ ((SqL K H p ys ∧ ∀ l, H l = none → Q (.ref l) (upd H l (.tup ys))) ∨ (SqT K H p ys ∧ Q (.ref p) H))
theorem c_tuple {X : Cx} : CallR X (.type "tuple") (rTupQ X.K) := call_tuple_of
theorem x_tupL {K : PySem.W.Frag} {H : Hp} {Q : VK} {p : Addr} {ys : List V} (h : SqL K H p ys) (q : ∀ l H1, H l = none → Kp F0 H H1 → H1 l = some (.tup ys) → Q (.ref l) H1) : rTupQ K [.ref p] H Q := ⟨p, ys, rfl, .inl ⟨h, fun l hl => q l _ hl (Kp.new hl) upd_same⟩⟩
theorem x_tupT {K : PySem.W.Frag} {H : Hp} {Q : VK} {p : Addr} {ys : List V} (h : SqT K H p ys) (q : Q (.ref p) H) : rTupQ K [.ref p] H Q := ⟨p, ys, rfl, .inr ⟨h, q⟩⟩
/-- isinstance of an int -/
theorem x_isi {K : PySem.W.Frag} {H : Hp} {Q : VK} {i : Int} {T : String} {b : Bool} (hk : PySem.W.kitOne K (.type "int") (.type T) = some b) (q : Q (.bl b) H) : rIsi K [.int i, .ty T] H Q := ⟨_, _, _, _, b, rfl, .ty T, .base (.int i), hk, q⟩
theorem x_isiI {K : PySem.W.Frag} {H : Hp} {Q : VK} {i : Int} (q : Q (.bl true) H) : rIsi K [.int i, .ty "int"] H Q := x_isi (kit_ty (by decide +kernel)) q
theorem x_isiB {K : PySem.W.Frag} {H : Hp} {Q : VK} {i : Int} (q : Q (.bl false) H) : rIsi K [.int i, .ty "bool"] H Q := x_isi (kit_ty (by decide +kernel)) q
/-- bytes of a slice: a new list -/
theorem x_sl {σ : L2.St} {H : Hp} {Q : VK} {te : TE} {tl th : TO} {r : V → Option Int → Option Int → Hp → VK → Prop} (h : te σ H fun x H1 => tl σ H1 fun l H2 => th σ H2 fun u H3 => r x l u H3 Q) : L2.tSl r te tl th σ H Q := h
theorem x_part {σ : L2.St} {H : Hp} {Q : Option Int → Hp → Prop} {te : TE} (h : te σ H fun x H1 => ∃ i, x = .int i ∧ Q (some i) H1) : tPart te σ H Q := h
theorem x_part1 {S : Int → Prop} {i : Int} (h : S i) : ∃ j, V.int i = .int j ∧ S j := ⟨i, rfl, h⟩
theorem x_nopart {σ : L2.St} {H : Hp} {Q : Option Int → Hp → Prop} (h : Q none H) : tNoPart σ H Q := h
theorem x_slL {K : PySem.W.Frag} {H : Hp} {Q : VK} {p : Addr} {xs : List V} {lo hi : Option Int} (h : SqL K H p xs) (q : ∀ l H1, H l = none → Kp F0 H H1 → H1 l = some (.lst (cutV xs lo hi)) → Q (.ref l) H1) : rSlL K (.ref p) lo hi H Q := ⟨p, xs, rfl, h, fun l hl => q l _ hl (Kp.new hl) upd_same⟩
theorem x_slT {K : PySem.W.Frag} {H : Hp} {Q : VK} {p : Addr} {xs : List V} {lo hi : Option Int} (h : SqT K H p xs) (q : ∀ l H1, Kp F0 H H1 → SqT K H1 l (cutV xs lo hi) → Q (.ref l) H1) : rSlA K (.ref p) lo hi H Q :=
  ⟨p, xs, rfl, h, fun e => q p H (Kp.refl _) (by rw [show cutV xs lo hi = xs by unfold cutV; rw [e.1, e.2]; simp]; exact h), fun _ l hl => q l _ (Kp.new hl) (SqT.of upd_same)⟩
theorem x_catT {K : PySem.W.Frag} {H : Hp} {Q : VK} {a b : Addr} {xs ys : List V} (ha : SqT K H a xs) (hb : SqT K H b ys) (hz : xs.length + ys.length ≤ 100000) (q : ∀ l H1, Kp F0 H H1 → SqT K H1 l (xs ++ ys) → Q (.ref l) H1) : rCatA K (.ref a) (.ref b) H Q :=
  ⟨a, b, xs, ys, rfl, rfl, ha, hb, Nat.le_trans hz (by decide), fun e => q b H (Kp.refl _) (by rw [e]; exact hb), fun _ e => q a H (Kp.refl _) (by rw [e, List.append_nil]; exact ha), fun _ _ l hl => q l _ (Kp.new hl) (SqT.of upd_same)⟩
theorem x_catL {H : Hp} {Q : VK} {a b : Addr} {xs ys : List V} (ha : H a = some (.lst xs)) (hb : H b = some (.lst ys)) (hz : xs.length + ys.length ≤ sizeLine) (q : ∀ l H1, H l = none → Kp F0 H H1 → H1 l = some (.lst (xs ++ ys)) → Q (.ref l) H1) : rCat (.ref a) (.ref b) H Q :=
  ⟨a, b, xs, ys, rfl, rfl, ha, hb, hz, fun l hl => q l _ hl (Kp.new hl) upd_same⟩
/-- data compared -/
theorem x_eqD {K : PySem.W.Frag} {H : Hp} {Q : VK} {x y : V} {d e : PyData} (hx : Dp K H x d) (hy : Dp K H y e) (s1 : SeqAt.shaped d = true) (s2 : SeqAt.shaped e = true) (q : Q (.bl (PyData.eqv d e)) H) : rEqD K x y H Q := ⟨d, e, hx, hy, s1, s2, q⟩
theorem x_neD {K : PySem.W.Frag} {H : Hp} {Q : VK} {x y : V} {d e : PyData} (hx : Dp K H x d) (hy : Dp K H y e) (s1 : SeqAt.shaped d = true) (s2 : SeqAt.shaped e = true) (q : Q (.bl (!PyData.eqv d e)) H) : rNeD K x y H Q := ⟨d, e, hx, hy, s1, s2, q⟩

/-! ### data of ints and texts: equal as data, equal -/
mutual
def nb : PyData → Bool
  | .none => true
  | .bool _ => false
  | .int _ => true
  | .str _ => true
  | .list xs => nbAll xs
  | .tuple xs => nbAll xs
  | .dict _ => false
def nbAll : List PyData → Bool
  | [] => true
  | x :: xs => nb x && nbAll xs
end
mutual
theorem eqv_nb : ∀ d e : PyData, nb d = true → nb e = true → (PyData.eqv d e = true ↔ d = e)
  | .none, e, _, h => by cases e <;> first | (simp [nb] at h; done) | simp [PyData.eqv]
  | .int i, e, _, h => by cases e <;> first | (simp [nb] at h; done) | simp [PyData.eqv]
  | .str i, e, _, h => by cases e <;> first | (simp [nb] at h; done) | simp [PyData.eqv]
  | .list xs, e, g, h => by
    cases e with
    | list ys => rw [show PyData.eqv (.list xs) (.list ys) = PyData.eqvAll xs ys by simp [PyData.eqv], eqvAll_nb xs ys (by simpa [nb] using g) (by simpa [nb] using h)]; simp
    | bool b => simp [nb] at h
    | dict b => simp [nb] at h
    | _ => simp [PyData.eqv]
  | .tuple xs, e, g, h => by
    cases e with
    | tuple ys => rw [show PyData.eqv (.tuple xs) (.tuple ys) = PyData.eqvAll xs ys by simp [PyData.eqv], eqvAll_nb xs ys (by simpa [nb] using g) (by simpa [nb] using h)]; simp
    | bool b => simp [nb] at h
    | dict b => simp [nb] at h
    | _ => simp [PyData.eqv]
  | .bool _, _, g, _ => by simp [nb] at g
  | .dict _, _, g, _ => by simp [nb] at g
theorem eqvAll_nb : ∀ xs ys : List PyData, nbAll xs = true → nbAll ys = true → (PyData.eqvAll xs ys = true ↔ xs = ys)
  | [], [], _, _ => by simp [PyData.eqvAll]
  | [], _ :: _, _, _ => by simp [PyData.eqvAll]
  | _ :: _, [], _, _ => by simp [PyData.eqvAll]
  | x :: xs, y :: ys, g, h => by
    simp only [nbAll, Bool.and_eq_true] at g h
    simp only [PyData.eqvAll, Bool.and_eq_true, List.cons.injEq]
    rw [eqv_nb x y g.1 h.1, eqvAll_nb xs ys g.2 h.2]
end
theorem eqv_dec {d e : PyData} (h1 : nb d = true) (h2 : nb e = true) {p : Prop} [Decidable p] (h : d = e ↔ p) : PyData.eqv d e = decide p := by
  rw [Bool.eq_iff_iff, eqv_nb d e h1 h2, h, decide_eq_true_iff]
/-- data whose rows are shaped -/
def Sh (n : Nat) (d : PyData) : Prop := d.canLay0 = true ∧ d.depth ≤ n ∧ nb d = true
theorem Sh.shaped {n : Nat} {d : PyData} (h : Sh n d) (hn : n ≤ 64 := by decide) : SeqAt.shaped d = true := by
  unfold SeqAt.shaped
  rw [h.1, decide_eq_true (Nat.le_trans h.2.1 hn)]; rfl
theorem Sh.int (i : Int) : Sh 0 (.int i) := ⟨by simp [PyData.canLay0], by simp [PyData.depth], by simp [nb]⟩
theorem sh_all {n : Nat} : ∀ {ds : List PyData}, (∀ d ∈ ds, Sh n d) → PyData.canLayAll0 ds = true ∧ PyData.depthAll ds ≤ n ∧ nbAll ds = true
  | [], _ => ⟨by simp [PyData.canLayAll0], by simp [PyData.depthAll], by simp [nbAll]⟩
  | d :: ds, h => by
    have h1 := h d (by simp)
    have h2 := sh_all (ds := ds) fun x hx => h x (List.mem_cons_of_mem _ hx)
    exact ⟨by simp [PyData.canLayAll0, h1.1, h2.1], by simp only [PyData.depthAll]; have := h1.2.1; have := h2.2.1; omega, by simp [nbAll, h1.2.2, h2.2.2]⟩
theorem Sh.list {n : Nat} {ds : List PyData} (h : ∀ d ∈ ds, Sh n d) : Sh (n + 1) (.list ds) := by
  have q := sh_all h
  exact ⟨by simp [PyData.canLay0, q.1], by simp only [PyData.depth]; have := q.2.1; omega, by simp [nb, q.2.2]⟩
theorem Sh.tuple {n : Nat} {ds : List PyData} (h : ∀ d ∈ ds, Sh n d) : Sh (n + 1) (.tuple ds) := by
  have q := sh_all h
  exact ⟨by simp [PyData.canLay0, q.1], by simp only [PyData.depth]; have := q.2.1; omega, by simp [nb, q.2.2]⟩
theorem sh_ints (ns : List Int) : ∀ d ∈ ns.map PyData.int, Sh 0 d := fun d h => by
  obtain ⟨i, _, rfl⟩ := List.mem_map.mp h
  exact Sh.int i
theorem map_int_inj : ∀ {ns ms : List Int}, ns.map PyData.int = ms.map PyData.int ↔ ns = ms
  | [], [] => by simp
  | [], _ :: _ => by simp
  | _ :: _, [] => by simp
  | n :: ns, m :: ms => by simp [map_int_inj (ns := ns) (ms := ms)]
theorem dp_ints {K : PySem.W.Frag} {H : Hp} : ∀ ns : List Int, DpAll K H (ns.map V.int) (ns.map PyData.int)
  | [] => .nil
  | n :: ns => .cons (.int n) (dp_ints ns)
theorem x_eqLI {K : PySem.W.Frag} {H : Hp} {Q : VK} {a b : Addr} {ns ms : List Int} (ha : SqL K H a (ns.map V.int)) (hb : SqL K H b (ms.map V.int)) (q : Q (.bl (decide (ns = ms))) H) : rEqD K (.ref a) (.ref b) H Q :=
  x_eqD (.lst ha (dp_ints _)) (.lst hb (dp_ints _)) (Sh.list (sh_ints _)).shaped (Sh.list (sh_ints _)).shaped (by rw [eqv_dec (p := ns = ms) (Sh.list (sh_ints _)).2.2 (Sh.list (sh_ints _)).2.2 (by simp [map_int_inj])]; exact q)
theorem x_neLI {K : PySem.W.Frag} {H : Hp} {Q : VK} {a b : Addr} {ns ms : List Int} (ha : SqL K H a (ns.map V.int)) (hb : SqL K H b (ms.map V.int)) (q : Q (.bl (!decide (ns = ms))) H) : rNeD K (.ref a) (.ref b) H Q :=
  x_neD (.lst ha (dp_ints _)) (.lst hb (dp_ints _)) (Sh.list (sh_ints _)).shaped (Sh.list (sh_ints _)).shaped (by rw [eqv_dec (p := ns = ms) (Sh.list (sh_ints _)).2.2 (Sh.list (sh_ints _)).2.2 (by simp [map_int_inj])]; exact q)
theorem x_eqTI {K : PySem.W.Frag} {H : Hp} {Q : VK} {a b : Addr} {ns ms : List Int} (ha : SqT K H a (ns.map V.int)) (hb : SqT K H b (ms.map V.int)) (q : Q (.bl (decide (ns = ms))) H) : rEqD K (.ref a) (.ref b) H Q :=
  x_eqD (.tup ha (dp_ints _)) (.tup hb (dp_ints _)) (Sh.tuple (sh_ints _)).shaped (Sh.tuple (sh_ints _)).shaped (by rw [eqv_dec (p := ns = ms) (Sh.tuple (sh_ints _)).2.2 (Sh.tuple (sh_ints _)).2.2 (by simp [map_int_inj])]; exact q)
theorem x_neTI {K : PySem.W.Frag} {H : Hp} {Q : VK} {a b : Addr} {ns ms : List Int} (ha : SqT K H a (ns.map V.int)) (hb : SqT K H b (ms.map V.int)) (q : Q (.bl (!decide (ns = ms))) H) : rNeD K (.ref a) (.ref b) H Q :=
  x_neD (.tup ha (dp_ints _)) (.tup hb (dp_ints _)) (Sh.tuple (sh_ints _)).shaped (Sh.tuple (sh_ints _)).shaped (by rw [eqv_dec (p := ns = ms) (Sh.tuple (sh_ints _)).2.2 (Sh.tuple (sh_ints _)).2.2 (by simp [map_int_inj])]; exact q)

/-! ### rules with the written part named -/
section
variable {X : Cx} {K : PySem.W.Frag} {e o : Expr} {es : List Expr} {ta to te : TE} {f name : Str} {pos apos cpos : Pos} {t : TA} {T id : String} {r : V → List V → Hp → VK → Prop} {tg l : Expr} {gs : TGs}
theorem pe_fldK (hK : X.K = K) (he : PE X e ta) (hb : attributeBase e f X.env (eval e X.env) = eval e X.env := by rfl) : PE X (.Attribute e f pos) (tFld K ta f) := by subst hK; exact pe_fld he hb
theorem pe_kBM (hK : X.K = K) (h : PE X e (tBM X.K T r to t)) : PE X e (tBM K T r to t) := by subst hK; exact h
theorem pe_kBM0 (hK : X.K = K) (h : PE X e (tBM0 X.K T r to)) : PE X e (tBM0 K T r to) := by subst hK; exact h
theorem pg_kT {k : Nat} (hK : X.K = K) (h : PG X tg (gTup X.K k gs)) : PG X tg (gTup K k gs) := by subst hK; exact h
theorem pi_listK (hK : X.K = K) (h : PE X l te) : PI X tg l (iList K te) := by subst hK; exact pi_list h
theorem pi_tupK (hK : X.K = K) (h : PE X l te) : PI X tg l (iTup K te) := by subst hK; exact pi_tup h
end

/-- what every law promises: True -/
def sp_law (K : PySem.W.Frag) : Sp := fun vs H Q _ => ∃ (a : Addr) (ns : List Int), vs = [.ref a] ∧ Sc K H a ns ∧ ns.length ≤ 63 ∧ ∀ H', Q (.bl true) H'
theorem tup_K {K : PySem.W.Frag} {H : Hp} {a : Addr} {dd : Option Addr} {us : List Value} {n : Nat} {sl : Array (Option Value)} {xs : List V} (h : K.lookup a = some ⟨.type "tuple", dd, .seq us.toArray n, sl⟩) (r : Vals xs us) (z : us.length ≤ 1000 := by exact Nat.le_of_ble_eq_true rfl) : SqT K H a xs :=
  .inr ⟨_, us.toArray, n, h, rfl, rfl, Nat.le_trans (by simpa using z) (by decide : 1000 ≤ sizeLine), r⟩

/-! ### methods of lists, targets -/
section
variable {K : PySem.W.Frag} {σ : L2.St} {H : Hp} {Q : VK} {to te : TE} {ts : TA} {T : String} {r : V → List V → Hp → VK → Prop} {l b p a : Addr} {xs zs : List V} {y v : V}
theorem x_bm (h : to σ H fun x H1 => tyV K T x H1 ∧ ts σ H1 fun xs H2 => r x xs H2 Q) : tBM K T r to ts σ H Q := h
theorem x_bm0 (h : to σ H fun x H1 => tyV K T x H1 ∧ r x [] H1 Q) : tBM0 K T r to σ H Q := h
theorem x_ty {B : Prop} (h : H p = some (.lst xs)) (q : B) : tyV K "list" (.ref p) H ∧ B := ⟨.inl ⟨rfl, _, SqL.of h⟩, q⟩
theorem x_app (h : H l = some (.lst xs)) (hz : xs.length < 16777216) (q : ∀ H1, H1 l = some (.lst (xs ++ [y])) → Kp (F1 l) H H1 → Q .non H1) : rAppend (.ref l) [y] H Q :=
  ⟨l, xs, y, rfl, rfl, h, Nat.lt_of_lt_of_le hz (by decide), q _ upd_same (Kp.put h id)⟩
theorem x_ext (h : H l = some (.lst xs)) (hb : H b = some (.lst zs)) (hz : xs.length + zs.length ≤ 16777216) (q : ∀ H1, H1 l = some (.lst (xs ++ zs)) → Kp (F1 l) H H1 → Q .non H1) : rExtend (.ref l) [.ref b] H Q :=
  ⟨l, b, xs, zs, rfl, rfl, h, hb, Nat.le_trans hz (by decide), q _ upd_same (Kp.put h id)⟩
theorem x_all {bs : List Bool} (h : SqL K H a (bs.map V.bl)) (q : Q (.bl (bs.all id)) H) : rAll K [.ref a] H Q := ⟨a, bs, rfl, h, q⟩
theorem x_any {bs : List Bool} (h : SqL K H a (bs.map V.bl)) (q : Q (.bl (bs.any id)) H) : rAny K [.ref a] H Q := ⟨a, bs, rfl, h, q⟩
theorem x_gt {n : Nat} {g : TGs} {R : L2.St → Hp → Prop} (h : SqT K H a xs) (hn : xs.length = n) (q : g xs σ H R) : gTup K n g (.ref a) σ H R := ⟨a, xs, rfl, h, hn, q⟩
theorem x_gc {t : TG} {u : TGs} {R : L2.St → Hp → Prop} (q : t v σ H fun σ' H' => u xs σ' H' R) : gCons t u (v :: xs) σ H R := ⟨v, xs, rfl, q⟩
theorem x_g0 {R : L2.St → Hp → Prop} (q : R σ H) : gNil [] σ H R := ⟨rfl, q⟩
theorem x_isiT {S : String} {b : Bool} (h : SqT K H a xs) (ht : TyX K H (.ref a) (.type "tuple")) (hk : PySem.W.kitOne K (.type "tuple") (.type S) = some b) (q : Q (.bl b) H) : rIsi K [.ref a, .ty S] H Q := ⟨_, _, _, _, b, rfl, .ty S, ht, hk, q⟩
end
/-- n & (2 ^ k - 1) -/
def rAndM : R2 := fun x y H Q => ∃ (i : Int) (k : Nat), x = .int i ∧ y = .int (2 ^ k - 1) ∧ Q (.int (i % 2 ^ k)) H
theorem o_and {X : Cx} : OpR X (binaryOp .BitAnd) rAndM := op_andM
theorem x_and255 {H : Hp} {Q : VK} {i : Int} (q : Q (.int (i % 256)) H) : rAndM (.int i) (.int 255) H Q := ⟨i, 8, rfl, rfl, q⟩
/-! ### slices -/
theorem cut_to {a : List Int} {j : Int} (h0 : 0 ≤ j) (h1 : j ≤ a.length) : cutV (a.map V.int) none (some j) = (a.take j.toNat).map V.int := by
  obtain ⟨k, rfl⟩ := Int.eq_ofNat_of_zero_le h0
  unfold cutV
  rw [HT.sIx_none, HT.sIx_nat]
  simp only [List.drop_zero, Nat.sub_zero, List.length_map, List.map_take, Int.toNat_natCast]
  congr 1
  omega
theorem cut_from {a : List Int} {j : Int} (h0 : 0 ≤ j) (h1 : j ≤ a.length) : cutV (a.map V.int) (some j) none = (a.drop j.toNat).map V.int := by
  obtain ⟨k, rfl⟩ := Int.eq_ofNat_of_zero_le h0
  unfold cutV
  rw [HT.sIx_none, HT.sIx_nat]
  simp only [List.length_map, List.map_drop, Int.toNat_natCast]
  rw [show min k a.length = k by omega, List.take_of_length_le (by simp)]
theorem cut_mid {a : List Int} {i j : Int} (h0 : 0 ≤ i) (h1 : i ≤ j) : cutV (a.map V.int) (some i) (some j) = ((a.drop i.toNat).take (j - i).toNat).map V.int := by
  obtain ⟨m, rfl⟩ := Int.eq_ofNat_of_zero_le h0
  obtain ⟨n, rfl⟩ := Int.eq_ofNat_of_zero_le (Int.le_trans h0 h1)
  unfold cutV
  rw [HT.sIx_nat, HT.sIx_nat]
  simp only [List.length_map, List.map_take, List.map_drop, Int.toNat_natCast]
  have e : ((n : Int) - (m : Int)).toNat = n - m := by omega
  rw [e]
  by_cases q : m ≤ a.length
  · rw [show min m a.length = m by omega]
    by_cases q2 : n ≤ a.length
    · rw [show min n a.length = n by omega]
    · rw [show min n a.length = a.length by omega, List.take_of_length_le (by simp), List.take_of_length_le (by simp; omega)]
  · rw [List.drop_eq_nil_of_le (by simp; omega), List.drop_eq_nil_of_le (by simp; omega)]; simp
end NV
namespace NV
open PySem L2
/-! the text by places -/
def top (i : Nat) : Stmt := PySem.Challenge.pw_nearvault_k02_numbers_and_points_as_byte.main.body.getD i (.Pass ⟨0, 0, 0, 0⟩)
abbrev s_write_number : Stmt := top 2
abbrev s_read_number : Stmt := top 3
abbrev s_write_point : Stmt := top 4
abbrev s_read_point : Stmt := top 5
abbrev s__law_is_integer : Stmt := top 7
abbrev s__law_draw : Stmt := top 8
abbrev s_law : Stmt := top 9
theorem sc_write_number : FnScope ["width", "number", "k"] ["width", "number"] (defScope s_write_number) := ⟨rfl, rfl, rfl, by decide +kernel, rfl, by decide +kernel, by decide +kernel⟩
theorem sc_read_number : FnScope ["data", "place", "width", "number", "byte"] ["data", "place", "width"] (defScope s_read_number) := ⟨rfl, rfl, rfl, by decide +kernel, rfl, by decide +kernel, by decide +kernel⟩
theorem sc_write_point : FnScope ["point", "data", "coordinate"] ["point"] (defScope s_write_point) := ⟨rfl, rfl, rfl, by decide +kernel, rfl, by decide +kernel, by decide +kernel⟩
theorem sc_read_point : FnScope ["data", "place", "dimensions", "k"] ["data", "place", "dimensions"] (defScope s_read_point) := ⟨rfl, rfl, rfl, by decide +kernel, rfl, by decide +kernel, by decide +kernel⟩
theorem sc__law_is_integer : FnScope ["_law_actual"] ["_law_actual"] (defScope s__law_is_integer) := ⟨rfl, rfl, rfl, by decide +kernel, rfl, by decide +kernel, by decide +kernel⟩
theorem sc__law_draw : FnScope ["_law_state", "_law_script", "_law_size", "_law_cell", "_law_mixed", "_law_digit"] ["_law_state", "_law_script", "_law_size"] (defScope s__law_draw) := ⟨rfl, rfl, rfl, by decide +kernel, rfl, by decide +kernel, by decide +kernel⟩
theorem sc_law : FnScope ["_law_script", "_law_state", "_law_before", "_law_behind", "_law_width", "_law_number", "_law_due", "_law_rest", "_law_k", "_law_data", "_law_kept", "_law_found", "_law_point", "_law_low", "_law_high", "_law_back", "_law_one"] ["_law_script"] (defScope s_law) := ⟨rfl, rfl, rfl, by decide +kernel, rfl, by decide +kernel, by decide +kernel⟩
/-- what the top has left -/
structure Txt (K : PySem.W.Frag) (mg : Str → Option Value) : Prop where
  f_write_number : ∃ f fd, Fun K "write_number" "write_number" s_write_number f fd ∧ mg "write_number" = some (.ref f)
  f_read_number : ∃ f fd, Fun K "read_number" "read_number" s_read_number f fd ∧ mg "read_number" = some (.ref f)
  f_write_point : ∃ f fd, Fun K "write_point" "write_point" s_write_point f fd ∧ mg "write_point" = some (.ref f)
  f_read_point : ∃ f fd, Fun K "read_point" "read_point" s_read_point f fd ∧ mg "read_point" = some (.ref f)
  f__law_is_integer : ∃ f fd, Fun K "_law_is_integer" "_law_is_integer" s__law_is_integer f fd ∧ mg "_law_is_integer" = some (.ref f)
  f__law_draw : ∃ f fd, Fun K "_law_draw" "_law_draw" s__law_draw f fd ∧ mg "_law_draw" = some (.ref f)
  f_law : ∃ f fd, Fun K "law" "law" s_law f fd ∧ mg "law" = some (.ref f)
  m_OFFSET : ∃ t, mg "OFFSET" = some (.int 32768 t)
  z_all : mg "all" = none
  z_bool : mg "bool" = none
  z_int : mg "int" = none
  z_isinstance : mg "isinstance" = none
  z_len : mg "len" = none
  z_list : mg "list" = none
  z_range : mg "range" = none
  z_tuple : mg "tuple" = none
/-! ### the reading's steps -/
local macro_rules | `(tactic| walk_at "nf") => `(tactic| first | exact id | assumption | exact Ne.symm (by assumption) | exact ne_of (by assumption) (by assumption) (by intro z; cases z) | exact ne_of_none (by assumption) (by assumption) | exact Ne.symm (ne_of_none (by assumption) (by assumption)))
local macro_rules | `(tactic| walk_at "hp") => `(tactic| first | assumption | exact upd_same | (refine' Kp.get (by assumption) ?hpa ?hpn; (case hpa => walk_at "hp"); (case hpn => walk_at "nf")) | (refine' Kp.tup (by assumption) ?hpa; (case hpa => walk_at "hp")))
local macro_rules | `(tactic| walk_at "sq") => `(tactic| first | assumption | exact SqL.of (by assumption) | exact SqT.of (by assumption) | exact Sc.sq (by assumption) | (refine' SqL.of ?hps; (case hps => walk_at "hp")) | (refine' SqT.of ?hps; (case hps => walk_at "hp")))
local macro_rules | `(tactic| walk_at "rd1") => `(tactic| (first
  | ((with_reducible refine' x_var ?vv ?_); (case vv => exact rfl))
  | ((with_reducible refine' x_ixL ?h1 ?h2 ?_); (case h1 => walk_at "sq"); (case h2 => (first | exact rfl | assumption)))
  | ((with_reducible refine' x_setL ?h1 ?h2 ?_); (case h1 => walk_at "hp"); (case h2 => (first | exact rfl | assumption)))
  | ((with_reducible refine' x_ixT ?h1 ?h2 ?_); (case h1 => walk_at "sq"); (case h2 => (first | exact rfl | assumption)))
  | ((with_reducible refine' x_lenL ?h1 ?_); (case h1 => walk_at "sq"))
  | ((with_reducible refine' x_lenT ?h1 ?_); (case h1 => walk_at "sq"))
  | ((with_reducible refine' x_I ?h1 ?_); (case h1 => (first | exact .inr ⟨by decide, by decide⟩ | exact .inl ⟨by decide, by decide⟩ | omega | exact ⟨by decide, by decide, by decide⟩ | exact fdiv_ok (by omega) (by omega))))
  | ((with_reducible refine' x_rg1 ?h1 ?h2 ?_); (case h1 => omega); (case h2 => omega))
  | ((with_reducible refine' x_rg2 ?h1 ?_); (case h1 => omega))
  | ((with_reducible refine' x_ty ?h1 ?_); (case h1 => walk_at "hp"))
  | ((with_reducible refine' x_gt ?h1 ?h2 ?_); (case h1 => walk_at "sq"); (case h2 => exact rfl))
  | ((with_reducible refine' x_iL1 ?h1 ?_); (case h1 => walk_at "sq"))
  | ((with_reducible refine' x_iT1 ?h1 ?_); (case h1 => walk_at "sq"))
  | with_reducible first
  | refine x_seq ?_ | refine x_asg ?_ | refine x_ifS ?_ | refine x_tst ?_ | refine x_op ?_ | refine x_c ?_ | refine x_I0 ?_ | refine x_bl ?_
  | refine x_cb ?_ | refine x_cons ?_ | refine x_nil ?_ | refine x_ret ?_ | refine x_retN ?_ | refine x_drop ?_ | refine x_next ?_
  | refine x_eqI ?_ | refine x_neI ?_ | refine x_eqS ?_ | refine x_neS ?_ | refine x_eqB ?_ | refine x_neB ?_ | refine x_intI ?_ | refine x_intB ?_ | refine x_and ?_ | refine x_or ?_ | refine x_not ?_
  | refine x_andV ?_ | refine x_orV ?_ | refine x_notV ?_ | refine x_ifE ?_ | refine x_ch ?_ | refine x_tup ?_ | refine x_lst ?_ | refine x_callS ?_ | refine x_sub ?_ | refine x_un ?_ | refine x_neg ?_ | refine x_tB ?_ | refine x_bm ?_ | refine x_bm0 ?_ | refine x_gc ?_ | refine x_g0 ?_ | refine x_and255 ?_ | refine x_ifNT ?_ | refine x_ifNF ?_ | refine x_yes ?_ | refine x_isiI ?_ | refine x_isiB ?_ | refine x_ifTT ?_ | refine x_ifFF ?_ | refine x_gn ?_ | refine x_for ?_ | refine x_lc ?_ | refine x_rng1 ?_ | refine x_rng2 ?_ | refine x_iL ?_ | refine x_iT ?_ | refine x_abs ?_ | refine x_max2 ?_ | refine x_min2 ?_ | refine x_sl ?_ | refine x_part ?_ | refine x_part1 ?_ | refine x_nopart ?_))
local macro_rules | `(tactic| walk_at "rd") => `(tactic| repeat walk_at "rd1")
local macro_rules | `(tactic| walk_at "cx") => `(tactic| dsimp only [cxOf, Cx.nox, Cx.wish, L2.start, List.map_cons, List.map_nil, List.length_cons, List.length_nil, List.reduceReplicate, List.cons_append, List.nil_append, Nat.reduceAdd, Nat.reduceSub])
section
variable {P : Program} {w : World} {K : PySem.W.Frag} {mg : Str → Option Value} {base : Heap}
def Dr (K : PySem.W.Frag) (H : Hp) (st sc : Addr) : Prop := ∃ (i v : Int) (ns : List Int), 0 ≤ i ∧ 0 ≤ v ∧ H st = some (.lst [.int i, .int v]) ∧ ns.length ≤ 63 ∧ Sc K H sc ns
def sp__law_draw (K : PySem.W.Frag) : Sp := fun vs H Q _ => ∃ st sc n, vs = [.ref st, .ref sc, .int n] ∧ 0 < n ∧ n < 2 ^ 64 ∧ Dr K H st sc ∧
  ∀ d H', 0 ≤ d → d < n → Dr K H' st sc → Kp (F1 st) H H' → Q (.int d) H'
theorem ok__law_draw (T : Txt K mg) : GF P w K mg base CX0 1 "_law_draw" (sp__law_draw K) := by
  obtain ⟨f, fd, F, gm⟩ := T.f__law_draw
  refine ⟨f, fd, ["_law_state", "_law_script", "_law_size"], F.ok sc__law_draw ?_ (fun cdv A outer s H vs Q E hr h => ?_), gm, F.kp, (F.binds (ps := ["_law_state", "_law_script", "_law_size"]) fun _ _ _ _ _ _ us hl => match us, hl with | [_, _, _], _ => rfl)⟩
  · rintro vs H Q E ⟨_, _, _, rfl, _⟩
    rfl
  · obtain ⟨st, sc, n, rfl, hn0, hn1, ⟨i, v, ns, hi, hv, hst, hlen, hsc⟩, k⟩ := h
    refine ⟨_, (C8.pss_cut (ps_if (pt_cmpR op_eq (pe_ix (r := rIxL K) ix_list (pv 0) pe_int (fun _ _ => rfl)) pe_int (nomark _)) (pss_cons (ps_set (i := 3) sc__law_draw.nd rfl (Or.inl rfl) pe_int)
      (C8.pss_cut (ps_if (pt_cmpR op_gt (pe_callB (r := rLenQ K) c_len (by rfl) T.z_len PySem.boot_len (pa_cons (pv 1) pa_nil)) pe_int (nomark _)) (pss_one (ps_set (i := 3) sc__law_draw.nd rfl (Or.inl rfl) (pe_ix (r := rIxL K) ix_list (pv 1) (pe_op op_mod (pe_ix (r := rIxL K) ix_list (pv 0) pe_int (fun _ _ => rfl)) (pe_callB (r := rLenQ K) c_len (by rfl) T.z_len PySem.boot_len (pa_cons (pv 1) pa_nil))) (fun _ _ => rfl)))) pss_nil)
      (C8.pss_cut (ps_if (pt_cmpR op_lt (pv 3) pe_int (nomark _)) (pss_one (ps_set (i := 3) sc__law_draw.nd rfl (Or.inl rfl) (pe_op op_sub pe_int (pe_op op_mul pe_int (pv 3))))) pss_nil)
      (pss_cons (ps_set (i := 4) sc__law_draw.nd rfl (Or.inl rfl) (pe_op op_mod (pe_callTy c_int (by rfl) T.z_int (by decide +kernel) (pa_cons (pe_op op_mul (pe_op op_add (pe_op op_add (pv 3) (pe_op op_mul (pe_ix (r := rIxL K) ix_list (pv 0) pe_int (fun _ _ => rfl)) pe_int)) pe_int) pe_int) pa_nil)) pe_int))
      (pss_cons (ps_asg (pe_op op_mod (pe_callTy c_int (by rfl) T.z_int (by decide +kernel) (pa_cons (pe_op op_add (pe_op op_mul (pv 4) pe_int) (pe_op op_mul (pe_ix (r := rIxL K) ix_list (pv 0) pe_int (fun _ _ => rfl)) pe_int)) pa_nil)) pe_int) (pg_sub (pv 0) pe_int set_list))
      (C8.pss_cut (ps_if (PW.pt (pw_and (pt_cmpR op_ge (pv 3) (pe_op op_pow pe_int pe_int) (nomark _)) (pw_and1 (pt_cmpR op_lt (pe_ix (r := rIxL K) ix_list (pv 0) pe_int (fun _ _ => rfl)) (pe_callB (r := rLenQ K) c_len (by rfl) T.z_len PySem.boot_len (pa_cons (pv 1) pa_nil)) (nomark _))))) (pss_one (ps_asg (pv 3) (pg_sub (pv 0) pe_int set_list))) pss_nil)
      (pss_one (ps_asg (pe_op op_add (pe_ix (r := rIxL K) ix_list (pv 0) pe_int (fun _ _ => rfl)) pe_int) (pg_sub (pv 0) pe_int set_list))))))))) pss_nil)
      (pss_cons (ps_set (i := 5) sc__law_draw.nd rfl (Or.inl rfl) (pe_op op_mod (pe_callTy c_int (by rfl) T.z_int (by decide +kernel) (pa_cons (pe_ix (r := rIxL K) ix_list (pv 0) pe_int (fun _ _ => rfl)) pa_nil)) (pv 2)))
      (pss_cons (ps_asg (pe_op op_fdivW (pe_ix (r := rIxL K) ix_list (pv 0) pe_int (fun _ _ => rfl)) (pv 2)) (pg_sub (pv 0) pe_int set_list))
      (pss_one (ps_ret (pv 5)))))), ?_⟩
    walk_at "cx"
    walk_at "rd"
    have kpu : ∀ o, Kp (F1 st) H (upd H st o) := fun o => Kp.put hst id
    refine x_cut (fun σ' H' => ∃ (i' v' : Int) (u1 u2 : Option V), σ' = [some (.ref st), some (.ref sc), some (.int n), u1, u2, none] ∧ 0 ≤ i' ∧ 0 ≤ v' ∧ H' = upd H st (.lst [.int i', .int v'])) ?_ ?_
    · walk_at "rd"
      refine ite_dec (fun e => ?_) (fun e => ?_)
      · walk_at "rd"
        refine x_cut (fun σ' H' => ∃ (c : Int), σ' = [some (.ref st), some (.ref sc), some (.int n), some (.int c), none, none] ∧ H = H') ?_ ?_
        · walk_at "rd"
          refine ite_dec (fun e1 => ?_) (fun e1 => ?_)
          · have hl : (0 : Int) < ((ns.map V.int).length : Int) := e1
            have hb := Int.emod_lt_of_pos i hl
            have hb0 := Int.emod_nonneg i (Int.ne_of_gt hl)
            walk_at "rd"
            refine x_ixL hsc.sq (v := .int (ns.getD (i % ((ns.map V.int).length : Int)).toNat 0)) (atI_at (i % ((ns.map V.int).length : Int)).toNat (by omega) ?_) ?_
            · rw [List.length_map] at *
              rw [List.getElem?_map, List.getD_eq_getElem?_getD, List.getElem?_eq_getElem (by omega)]
              rfl
            · walk_at "rd"
              exact ⟨_, rfl, rfl⟩
          · exact ⟨0, rfl, rfl⟩
        · rintro σ' H' ⟨c, rfl, rfl⟩
          refine x_cut (fun σ' H' => ∃ (c : Int), 0 ≤ c ∧ σ' = [some (.ref st), some (.ref sc), some (.int n), some (.int c), none, none] ∧ H = H') ?_ ?_
          · walk_at "rd"
            refine ite_dec (fun e2 => ?_) (fun e2 => ?_)
            · walk_at "rd"
              exact ⟨_, by omega, rfl, rfl⟩
            · exact ⟨c, by omega, rfl, rfl⟩
          · rintro σ' H' ⟨c, hc, rfl, rfl⟩
            walk_at "rd"
            have hm0 : ∀ z : Int, 0 ≤ z % 4294967291 := fun z => Int.emod_nonneg z (by decide)
            refine x_cut (fun σ' H' => ∃ (v' : Int) (u1 : Option V), 0 ≤ v' ∧ σ' = [some (.ref st), some (.ref sc), some (.int n), some (.int c), u1, none] ∧ H' = upd H st (.lst [.int i, .int v'])) ?_ ?_
            · walk_at "rd"
              refine ite_dec (fun e3 => ?_) (fun e3 => ?_)
              · walk_at "rd"
                refine x_lenL (hsc.kp (kpu _)).sq ?_
                walk_at "rd"
                refine ite_dec (fun e4 => ?_) (fun e4 => ?_)
                · walk_at "rd"
                  exact ⟨c, _, hc, rfl, upd_upd⟩
                · exact ⟨_, _, hm0 _, rfl, rfl⟩
              · exact ite_bool (fun z => by cases z) (fun _ => ⟨_, _, hm0 _, rfl, rfl⟩)
            · rintro σ' H' ⟨v', u1, hv', rfl, rfl⟩
              walk_at "rd"
              exact ⟨i + 1, v', _, _, rfl, by omega, hv', upd_upd⟩
      · exact ⟨i, v, _, _, rfl, hi, hv, (upd_id hst).symm⟩
    · rintro σ' H' ⟨i', v', u1, u2, rfl, hi', hv', rfl⟩
      walk_at "rd"
      refine k _ _ (Int.emod_nonneg _ (by omega)) (Int.emod_lt_of_pos _ hn0) ⟨i', v' / n, ns, hi', Int.ediv_nonneg hv' (by omega), upd_same, hlen, ?_⟩ ?_
      · rw [upd_upd]; exact hsc.kp (kpu _)
      · rw [upd_upd]; exact kpu _
theorem Dr.kp {K : PySem.W.Frag} {F : Addr → Prop} {H H' : Hp} {st sc : Addr} (s : Kp F H H') (d : Dr K H st sc) (n : ¬ F st) : Dr K H' st sc := by
  obtain ⟨i, v, ns, hi, hv, hst, hl, hs⟩ := d
  exact ⟨i, v, ns, hi, hv, s.get hst n, hl, hs.kp s⟩
theorem Dr.ne {K : PySem.W.Frag} {H H0 : Hp} {st sc D : Addr} {o : HO} (d : H0 st = some o) (n : H0 D = none) : st ≠ D := ne_of_none d n
theorem Dr.off {K : PySem.W.Frag} {H : Hp} {st sc D : Addr} {o : HO} (d : Dr K H st sc) (n : st ≠ D) (m : ∀ u, H D = some u → ¬ Fix u) : Dr K (upd H D o) st sc := by
  obtain ⟨i, v, ns, hi, hv, hst, hl, hs⟩ := d
  refine ⟨i, v, ns, hi, hv, by rw [upd_ne n]; exact hst, hl, ?_⟩
  rcases hs with ⟨f, h⟩ | h
  · refine .inl ⟨f, ?_⟩
    rw [upd_ne fun e => m (.frz f (.lst (ns.map V.int))) (by rw [← e]; exact h) trivial]
    exact h
  · exact .inr h
end
/-! ### numbers and points as bytes, in plain Lean -/
/-- the last w bytes of a number, most significant first -/
def wn : Nat → Int → List Int
  | 0, _ => []
  | w + 1, n => wn w (n / 256) ++ [n % 256]
def rn (l : List Int) : Int := l.foldl (fun a b => a * 256 + b) 0
def wp (p : List Int) : List Int := p.flatMap fun c => wn 2 (c + 32768)
def rp (l : List Int) (place : Nat) (d : Nat) : List Int := (List.range d).map fun k => rn ((l.drop (place + 2 * k)).take 2) - 32768
/-- a list of bytes -/
def Byt (l : List Int) : Prop := ∀ x ∈ l, 0 ≤ x ∧ x < 256
theorem wn_len : ∀ (w : Nat) (n : Int), (wn w n).length = w
  | 0, _ => rfl
  | w + 1, n => by show (wn w (n / 256) ++ [n % 256]).length = w + 1; rw [List.length_append, wn_len w]; rfl
theorem wn_byt : ∀ (w : Nat) (n : Int), Byt (wn w n)
  | 0, _, x, h => by cases h
  | w + 1, n, x, h => by
    rcases List.mem_append.mp (show x ∈ wn w (n / 256) ++ [n % 256] from h) with h | h
    · exact wn_byt w _ x h
    · rw [List.mem_singleton.mp h]; omega
theorem pow256 (k : Nat) : (0 : Int) < 256 ^ k := Int.pow_pos (by decide)
theorem wn_cons : ∀ (w : Nat) (n : Int), wn (w + 1) n = (n / 256 ^ w % 256) :: wn w n
  | 0, n => by show [] ++ [n % 256] = _; simp [wn]
  | w + 1, n => by
    show wn (w + 1) (n / 256) ++ [n % 256] = _
    rw [wn_cons w (n / 256)]
    show (n / 256 / 256 ^ w % 256) :: (wn w (n / 256) ++ [n % 256]) = (n / 256 ^ (w + 1) % 256) :: wn (w + 1) n
    rw [Int.ediv_ediv_of_nonneg (by decide), Int.mul_comm, ← Int.pow_succ]; rfl
theorem rn_app (l : List Int) (x : Int) : rn (l ++ [x]) = rn l * 256 + x := by unfold rn; rw [List.foldl_append]; rfl
theorem rn_wn : ∀ (w : Nat) (n : Int), 0 ≤ n → n < 256 ^ w → rn (wn w n) = n
  | 0, n, h0, h1 => by rw [Int.pow_zero] at h1; show (0 : Int) = n; omega
  | w + 1, n, h0, h1 => by
    show rn (wn w (n / 256) ++ [n % 256]) = n
    rw [Int.pow_succ] at h1
    rw [rn_app, rn_wn w (n / 256) (by omega) (by omega)]
    omega
theorem rn_nn {l : List Int} (h : Byt l) : 0 ≤ rn l := by
  have q : ∀ (l : List Int) (a : Int), 0 ≤ a → Byt l → 0 ≤ l.foldl (fun a b => a * 256 + b) a := by
    intro l
    induction l with
    | nil => intro a h _; exact h
    | cons x l ih =>
      intro a h0 h
      have := h x (by simp)
      exact ih _ (show 0 ≤ a * 256 + x by omega) fun y hy => h y (List.mem_cons_of_mem _ hy)
  exact q l 0 (by decide) h
theorem wn_get {w : Nat} {n : Int} {k : Nat} (h : k < w) : (wn w n)[k]? = some (n / 256 ^ (w - 1 - k) % 256) := by
  induction w generalizing n k with
  | zero => omega
  | succ w ih =>
    rw [wn_cons]
    cases k with
    | zero => simp
    | succ k =>
      rw [List.getElem?_cons_succ, ih (by omega)]
      congr 4; omega
theorem pow_256 (k : Nat) : (2 : Int) ^ (8 * k) = 256 ^ k := by rw [Int.pow_mul]; rfl
theorem wp_app (p : List Int) (c : Int) : wp (p ++ [c]) = wp p ++ wn 2 (c + 32768) := by unfold wp; rw [List.flatMap_append]; simp
theorem wp_len (p : List Int) : (wp p).length = 2 * p.length := by
  induction p with
  | nil => rfl
  | cons c p ih =>
    show (wn 2 (c + 32768) ++ wp p).length = 2 * (p.length + 1)
    rw [List.length_append, ih, wn_len]; omega
theorem wp_byt (p : List Int) : Byt (wp p) := by
  intro x h
  obtain ⟨c, _, hx⟩ := List.mem_flatMap.mp h
  exact wn_byt _ _ x hx
/-- coordinates in their range -/
def Crd (p : List Int) : Prop := ∀ x ∈ p, -32768 ≤ x ∧ x ≤ 32767
theorem wp_drop (p : List Int) : ∀ k : Nat, (wp p).drop (2 * k) = wp (p.drop k)
  | 0 => by simp
  | k + 1 => by
    cases p with
    | nil => simp [wp]
    | cons c p =>
      show (wn 2 (c + 32768) ++ wp p).drop (2 * (k + 1)) = wp (p.drop k)
      rw [← wp_drop p k, List.drop_append, wn_len]
      rw [List.drop_eq_nil_of_le (by rw [wn_len]; omega), List.nil_append]
      congr 1
theorem rp_wp {p : List Int} (h : Crd p) (a b : List Int) : rp (a ++ wp p ++ b) a.length p.length = p := by
  unfold rp
  apply List.ext_getElem
  · simp
  · intro k h1 h2
    simp only [List.getElem_map, List.getElem_range]
    have e : (a ++ wp p ++ b).drop (a.length + 2 * k) = wn 2 (p[k] + 32768) ++ (wp (p.drop (k + 1)) ++ b) := by
      rw [List.append_assoc, List.drop_append, List.drop_eq_nil_of_le (by omega), List.nil_append, Nat.add_sub_cancel_left, List.drop_append, wp_drop]
      rw [show 2 * k - (wp p).length = 0 by rw [wp_len]; omega, List.drop_zero, List.drop_eq_getElem_cons h2]
      show wn 2 (p[k] + 32768) ++ wp (p.drop (k + 1)) ++ b = _
      rw [List.append_assoc]
    have hc := h p[k] (by simp)
    rw [e, List.take_append_of_le_length (by rw [wn_len]; omega), List.take_of_length_le (Nat.le_of_eq (wn_len _ _)), rn_wn _ _ (by omega) (by omega)]
    omega
section
variable {P : Program} {w : World} {K : PySem.W.Frag} {mg : Str → Option Value} {base : Heap}
def sp_write_number : Sp := fun vs H Q _ => ∃ (k : Nat) (n : Int), vs = [.int k, .int n] ∧ k ≤ 8 ∧ ∀ p H', H p = none → Kp F0 H H' → H' p = some (.lst ((wn k n).map V.int)) → Q (.ref p) H'
theorem ok_write_number (T : Txt K mg) : GF P w K mg base CX0 1 "write_number" sp_write_number := by
  obtain ⟨f, fd, F, gm⟩ := T.f_write_number
  refine ⟨f, fd, ["width", "number"], F.ok sc_write_number ?_ (fun cdv A outer s H vs Q E hr h => ?_), gm, F.kp, (F.binds (ps := ["width", "number"]) fun _ _ _ _ _ _ us hl => match us, hl with | [_, _], _ => rfl)⟩
  · rintro vs H Q E ⟨_, _, rfl, _⟩
    rfl
  · obtain ⟨n, z, rfl, hn, k⟩ := h
    refine ⟨_, (pss_one (ps_ret (pe_lc (own := [("k", 2)]) (g := (gName 2)) (tt := tYes) rfl sc_write_number.nd (pi_range1 (by rfl) T.z_range (pa_cons (pv 0) pa_nil)) (blkOk_by (N := ["width", "number", "k"]) (sc := defScope s_write_number) (by decide +kernel)) (fun _ _ _ _ _ => (pg_name (i := 2) sc_write_number.nd rfl (Or.inl rfl))) (fun _ _ _ _ _ => pts_nil) (fun _ _ _ _ _ => (pe_op o_and (pe_op op_shr (pv 1) (pe_op op_mul pe_int (pe_op op_sub (pe_op op_sub (pv 0) pe_int) (pv 2)))) pe_int))))), ?_⟩
    walk_at "cx"
    walk_at "rd"
    refine wlcP (ys := (wn n z).map V.int) Wk.rng (by rw [List.length_map, rgl_len, wn_len]; rfl) (by rw [rgl_len]; omega) (fun _ _ => trivial) (fun i x y H' R ex ey kp hR => ?_) (fun D H1 hD kp hDl => k D H1 hD kp hDl)
    obtain ⟨hi, rfl⟩ := rgl_at ex
    have hi' : i < n := hi
    rw [List.getElem?_map, wn_get hi'] at ey
    cases ey
    walk_at "rd"
    refine ⟨rfl, ?_⟩
    walk_at "rd"
    have e : 8 * ((n : Int) - 1 - (0 + (i : Nat))) = ((8 * (n - 1 - i) : Nat) : Int) := by omega
    have q := hR H' (Kp.refl _)
    rw [← pow_256] at q
    rw [e]
    exact q
def sp_read_number (K : PySem.W.Frag) : Sp := fun vs H Q _ => ∃ (a : Addr) (ds : List Int) (i k : Nat), vs = [.ref a, .int i, .int k] ∧ SqL K H a (ds.map V.int) ∧ ∀ H', Kp F0 H H' → Q (.int (rn ((ds.drop i).take k))) H'
theorem ok_read_number (T : Txt K mg) : GF P w K mg base CX0 1 "read_number" (sp_read_number K) := by
  obtain ⟨f, fd, F, gm⟩ := T.f_read_number
  refine ⟨f, fd, ["data", "place", "width"], F.ok sc_read_number ?_ (fun cdv A outer s H vs Q E hr h => ?_), gm, F.kp, (F.binds (ps := ["data", "place", "width"]) fun _ _ _ _ _ _ us hl => match us, hl with | [_, _, _], _ => rfl)⟩
  · rintro vs H Q E ⟨_, _, _, _, rfl, _⟩
    rfl
  · obtain ⟨a, ds, i, n, rfl, ha, k⟩ := h
    refine ⟨_, (pss_cons (ps_set (i := 3) sc_read_number.nd rfl (Or.inl rfl) pe_int)
      (pss_cons (ps_for PassesOwn.never rfl (pi_listK rfl (pe_slice (r := rSlL K) sl_list (pv 0) (po_some (pv 1)) (po_some (pe_op op_add (pv 1) (pv 2))))) (pg_name (i := 4) sc_read_number.nd rfl (Or.inl rfl)) (pss_one (ps_set (i := 3) sc_read_number.nd rfl (Or.inl rfl) (pe_op op_add (pe_op op_mul (pv 3) pe_int) (pv 4)))))
      (pss_one (ps_ret (pv 3))))), ?_⟩
    walk_at "cx"
    walk_at "rd"
    refine x_slL ha fun l H1 hl kp hl1 => ?_
    rw [cut_mid (by omega) (by omega), show ((i : Int) + (n : Int) - (i : Int)).toNat = n by omega, Int.toNat_natCast] at hl1
    walk_at "rd"
    refine wfor Wk.list (fun j σ H' => ∃ u, σ = [some (.ref a), some (.int i), some (.int n), some (.int (rn (((ds.drop i).take n).take j))), u] ∧ H1 = H') ⟨none, rfl, rfl⟩ (fun j σ H' ⟨u, _, e⟩ => by rw [← e]; exact SqL.of hl1) ?_ ?_
    · rintro j x σ H' ex ⟨u, rfl, rfl⟩
      rw [List.getElem?_map] at ex
      cases q : ((ds.drop i).take n)[j]? with
      | none => rw [q] at ex; cases ex
      | some z =>
        rw [q] at ex
        cases ex
        walk_at "rd"
        refine ⟨some (.int z), ?_, rfl⟩
        rw [List.take_succ (l := (ds.drop i).take n), q]
        show _ = [some (V.ref a), some (V.int i), some (V.int n), some (V.int (rn (((ds.drop i).take n).take j ++ [z]))), some (V.int z)]
        rw [rn_app]; rfl
    · rintro σ H' ⟨u, rfl, rfl⟩
      walk_at "rd"
      rw [List.length_map, List.take_length]
      exact k H1 kp
def sp_write_point (K : PySem.W.Frag) : Sp := fun vs H Q _ => ∃ (a : Addr) (ps : List Int), vs = [.ref a] ∧ SqT K H a (ps.map V.int) ∧ ps.length ≤ 1000 ∧ ∀ p H', H p = none → Kp F0 H H' → H' p = some (.lst ((wp ps).map V.int)) → Q (.ref p) H'
theorem ok_write_point (T : Txt K mg) : GF P w K mg base CX0 2 "write_point" (sp_write_point K) := by
  obtain ⟨f, fd, F, gm⟩ := T.f_write_point
  obtain ⟨_, mg_OFFSET⟩ := T.m_OFFSET
  refine ⟨f, fd, ["point"], F.ok sc_write_point ?_ (fun cdv A outer s H vs Q E hr h => ?_), gm, F.kp, (F.binds (ps := ["point"]) fun _ _ _ _ _ _ us hl => match us, hl with | [_], _ => rfl)⟩
  · rintro vs H Q E ⟨_, _, rfl, _⟩
    rfl
  · obtain ⟨a, ps, rfl, ha, hz, k⟩ := h
    refine ⟨_, (pss_cons (ps_set (i := 1) sc_write_point.nd rfl (Or.inl rfl) (pe_lst pa_nil))
      (pss_cons (ps_for PassesOwn.never rfl (pi_tupK rfl (pv 0)) (pg_name (i := 2) sc_write_point.nd rfl (Or.inl rfl)) (pss_one (ps_expr (pe_kBM rfl (pe_bm PySem.F.plainAttrs_list PySem.F.slot_list_extend PySem.F.type_list_extend mt_extend (pv 1) (pa_cons (pe_g (ok_write_number T) (hr.mono (by decide)) pass0S (pa_cons pe_int (pa_cons (pe_op op_add (pv 2) (pe_glob (v := .int 32768) rfl mg_OFFSET ⟨_, rfl⟩)) pa_nil))) pa_nil))))))
      (pss_one (ps_ret (pv 1))))), ?_⟩
    walk_at "cx"
    walk_at "rd"
    refine x_newL fun d H1 hd kp hd1 => ?_
    walk_at "rd"
    refine x_iT1 (kp.sqT ha) ?_
    refine wfor Wk.tup (fun j σ H' => ∃ u, σ = [some (.ref a), some (.ref d), u] ∧ H' d = some (.lst ((wp (ps.take j)).map V.int)) ∧ Kp F0 H H') ⟨none, rfl, hd1, kp⟩ (fun j σ H' ⟨u, _, _, kk⟩ => kk.sqT ha) ?_ ?_
    · rintro j x σ H' ex ⟨u, rfl, hd2, kk⟩
      rw [List.getElem?_map] at ex
      cases q : ps[j]? with
      | none => rw [q] at ex; cases ex
      | some z =>
        rw [q] at ex
        cases ex
        walk_at "rd"
        refine ⟨2, z + 32768, rfl, by decide, fun b H2 hb kp2 hb2 => ?_⟩
        have hd3 := kp2.get hd2 id
        walk_at "rd"
        have hl : (wp (ps.take j)).length ≤ 2000 := by rw [wp_len, List.length_take]; omega
        refine x_ext hd3 hb2 (by rw [List.length_map, List.length_map, wn_len]; omega) fun H3 h3 k3 => ?_
        refine ⟨some (.int z), rfl, ?_, (kk.trans kp2 fun _ z => z.elim).trans k3 fun b e => .inr (by rw [e]; exact hd)⟩
        rw [h3, ← List.map_append, List.take_succ, q, ← wp_app]; rfl
    · rintro σ H' ⟨u, rfl, hd2, kk⟩
      walk_at "rd"
      rw [List.length_map, List.take_length] at hd2
      exact k d H' hd kk hd2
def sp_read_point (K : PySem.W.Frag) : Sp := fun vs H Q _ => ∃ (a : Addr) (ds : List Int) (i d : Nat), vs = [.ref a, .int i, .int d] ∧ d ≤ 1000 ∧ SqL K H a (ds.map V.int) ∧ ∀ p H', H p = none → Kp F0 H H' → H' p = some (.tup ((rp ds i d).map V.int)) → Q (.ref p) H'
theorem ok_read_point (T : Txt K mg) : GF P w K mg base CX0 2 "read_point" (sp_read_point K) := by
  obtain ⟨f, fd, F, gm⟩ := T.f_read_point
  obtain ⟨_, mg_OFFSET⟩ := T.m_OFFSET
  refine ⟨f, fd, ["data", "place", "dimensions"], F.ok sc_read_point ?_ (fun cdv A outer s H vs Q E hr h => ?_), gm, F.kp, (F.binds (ps := ["data", "place", "dimensions"]) fun _ _ _ _ _ _ us hl => match us, hl with | [_, _, _], _ => rfl)⟩
  · rintro vs H Q E ⟨_, _, _, _, rfl, _⟩
    rfl
  · obtain ⟨a, ds, i, d, rfl, hd, ha, k⟩ := h
    refine ⟨_, (pss_one (ps_ret (pe_callTy (r := rTupQ K) c_tuple (by rfl) T.z_tuple (by decide +kernel) (pa_cons (pe_lc (own := [("k", 3)]) (g := (gName 3)) (tt := tYes) rfl sc_read_point.nd (pi_range1 (by rfl) T.z_range (pa_cons (pv 2) pa_nil)) (blkOk_by (N := ["data", "place", "dimensions", "k"]) (sc := defScope s_read_point) (by decide +kernel)) (fun _ _ _ _ _ => (pg_name (i := 3) sc_read_point.nd rfl (Or.inl rfl))) (fun _ _ _ _ _ => pts_nil) (fun _ _ _ _ _ => (pe_op op_sub (pe_g (ok_read_number T) (hr.mono (by decide)) pass0S (pa_cons (pv 0) (pa_cons (pe_op op_add (pv 1) (pe_op op_mul pe_int (pv 3))) (pa_cons pe_int pa_nil)))) (pe_glob (v := .int 32768) rfl mg_OFFSET ⟨_, rfl⟩)))) pa_nil)))), ?_⟩
    walk_at "cx"
    walk_at "rd"
    have hn : ∀ {H' : Hp}, Kp F0 H H' → SqL K H' a (ds.map V.int) := fun kp => kp.sqL ha id
    refine wlcP (ys := (rp ds i d).map V.int) Wk.rng (by unfold rp; simp [rgl_len]) (by rw [rgl_len]; omega) (fun _ _ => trivial) (fun j x y H' R ex ey kp hR => ?_) (fun D H1 hD kp hDl => ?_)
    · obtain ⟨hj, rfl⟩ := rgl_at ex
      have hj' : j < d := hj
      unfold rp at ey
      rw [List.getElem?_map, List.getElem?_map, List.getElem?_range hj'] at ey
      cases ey
      walk_at "rd"
      refine ⟨rfl, ?_⟩
      walk_at "rd"
      refine ⟨a, ds, i + 2 * j, 2, by simp, hn kp, fun H2 k2 => ?_⟩
      walk_at "rd"
      exact hR H2 k2
    · walk_at "rd"
      refine x_tupL (SqL.of hDl) fun l H2 hl kp2 hp => ?_
      exact k l H2 (kp.free hl id) (kp.trans kp2 fun _ z => z.elim) hp
end
section
variable {P : Program} {w : World} {K : PySem.W.Frag} {mg : Str → Option Value} {base : Heap}
def sp_isint : Sp := fun vs H Q _ => ∃ i : Int, vs = [.int i] ∧ Q (.bl true) H
theorem ok__law_is_integer (T : Txt K mg) : GF P w K mg base CX0 1 "_law_is_integer" sp_isint := by
  obtain ⟨f, fd, F, gm⟩ := T.f__law_is_integer
  refine ⟨f, fd, ["_law_actual"], F.ok sc__law_is_integer ?_ (fun cdv A outer s H vs Q E hr h => ?_), gm, F.kp, (F.binds (ps := ["_law_actual"]) fun _ _ _ _ _ _ us hl => match us, hl with | [_], _ => rfl)⟩
  · rintro vs H Q E ⟨_, rfl, _⟩
    rfl
  · obtain ⟨i, rfl, k⟩ := h
    refine ⟨_, (pss_one (ps_ret (pe_and (pe_callB (r := rIsi K) call_isi (by rfl) T.z_isinstance (by decide +kernel) (pa_cons (pv 0) (pa_cons (pe_bltn (v := .ty "int") (by rfl) T.z_int (by decide +kernel) rfl) pa_nil))) (pe_one (pe_not (pe_callB (r := rIsi K) call_isi (by rfl) T.z_isinstance (by decide +kernel) (pa_cons (pv 0) (pa_cons (pe_bltn (v := .ty "bool") (by rfl) T.z_bool (by decide +kernel) rfl) pa_nil)))))))), ?_⟩
    walk_at "cx"
    walk_at "rd"
    exact k
end
section
variable {P : Program} {w : World} {K : PySem.W.Frag} {mg : Str → Option Value} {base : Heap}
theorem getE {α : Type} {l : List α} {i : Nat} {x : V} {f : α → V} (h : (l.map f)[i]? = some x) : ∃ z, l[i]? = some z ∧ x = f z := by
  rw [List.getElem?_map] at h
  cases q : l[i]? with
  | none => rw [q] at h; cases h
  | some z => rw [q] at h; exact ⟨z, rfl, (Option.some.inj h).symm⟩
theorem ok_law {f : Addr} {fd : FuncData} (F : Fun K "law" "law" s_law f fd) (T : Txt K mg) : FnOk P w K mg base CX0 3 f fd ["_law_script"] (sp_law K) := by
  refine F.ok sc_law ?_ (fun cdv A outer s H vs Q E hr h => ?_)
  · rintro vs H Q E ⟨_, _, rfl, _⟩
    rfl
  · obtain ⟨sc, ns, rfl, hsc, hlen, k⟩ := h
    refine ⟨_, (pss_cons (ps_set (i := 1) sc_law.nd rfl (Or.inr rfl) (pe_lst (pa_cons pe_int (pa_cons pe_int pa_nil))))
      (pss_cons (ps_setLc (i := 2) (own := [("_law_k", 8)]) (g := (gName 8)) (tt := tYes) rfl sc_law.nd rfl rfl (sw_true rfl rfl rfl (by decide +kernel)) (pi_range1 (by rfl) T.z_range (pa_cons (pe_g (ok__law_draw T) (hr.mono (by decide)) pass0S (pa_cons (pv 1) (pa_cons (pv 0) (pa_cons pe_int pa_nil)))) pa_nil)) (blkOk_by (N := ["_law_script", "_law_state", "_law_before", "_law_behind", "_law_width", "_law_number", "_law_due", "_law_rest", "_law_k", "_law_data", "_law_kept", "_law_found", "_law_point", "_law_low", "_law_high", "_law_back", "_law_one"]) (sc := defScope s_law) (by decide +kernel)) (fun _ _ _ _ _ => (pg_name (i := 8) sc_law.nd rfl (Or.inl rfl))) (fun _ _ _ _ _ => pts_nil) (fun _ _ _ _ _ => (pe_g (ok__law_draw T) (hr.mono (by decide)) pass0S (pa_cons (pv 1) (pa_cons (pv 0) (pa_cons pe_int pa_nil))))))
      (pss_cons (ps_setLc (i := 3) (own := [("_law_k", 8)]) (g := (gName 8)) (tt := tYes) rfl sc_law.nd rfl rfl (sw_true rfl rfl rfl (by decide +kernel)) (pi_range1 (by rfl) T.z_range (pa_cons (pe_g (ok__law_draw T) (hr.mono (by decide)) pass0S (pa_cons (pv 1) (pa_cons (pv 0) (pa_cons pe_int pa_nil)))) pa_nil)) (blkOk_by (N := ["_law_script", "_law_state", "_law_before", "_law_behind", "_law_width", "_law_number", "_law_due", "_law_rest", "_law_k", "_law_data", "_law_kept", "_law_found", "_law_point", "_law_low", "_law_high", "_law_back", "_law_one"]) (sc := defScope s_law) (by decide +kernel)) (fun _ _ _ _ _ => (pg_name (i := 8) sc_law.nd rfl (Or.inl rfl))) (fun _ _ _ _ _ => pts_nil) (fun _ _ _ _ _ => (pe_g (ok__law_draw T) (hr.mono (by decide)) pass0S (pa_cons (pv 1) (pa_cons (pv 0) (pa_cons pe_int pa_nil))))))
      (pss_cons (ps_set (i := 4) sc_law.nd rfl (Or.inl rfl) (pe_op op_add pe_int (pe_g (ok__law_draw T) (hr.mono (by decide)) pass0S (pa_cons (pv 1) (pa_cons (pv 0) (pa_cons pe_int pa_nil))))))
      (pss_cons (ps_set (i := 5) sc_law.nd rfl (Or.inl rfl) (pe_op op_shr (pe_ix (r := rIxL K) ix_list (pe_lst (pa_cons pe_int (pa_cons (pe_op op_sub (pe_op op_pow pe_int pe_int) pe_int) (pa_cons (pe_g (ok__law_draw T) (hr.mono (by decide)) pass0S (pa_cons (pv 1) (pa_cons (pv 0) (pa_cons pe_int pa_nil)))) pa_nil)))) (pe_g (ok__law_draw T) (hr.mono (by decide)) pass0S (pa_cons (pv 1) (pa_cons (pv 0) (pa_cons pe_int pa_nil)))) (fun _ _ => rfl)) (pe_op op_mul pe_int (pe_op op_sub pe_int (pv 4)))))
      (pss_cons (ps_set (i := 6) sc_law.nd rfl (Or.inl rfl) (pe_lst pa_nil))
      (pss_cons (ps_set (i := 7) sc_law.nd rfl (Or.inl rfl) (pv 5))
      (pss_cons (ps_for PassesOwn.never rfl (pi_range1 (by rfl) T.z_range (pa_cons (pv 4) pa_nil)) (pg_name (i := 8) sc_law.nd rfl (Or.inl rfl)) (pss_cons (ps_set (i := 6) sc_law.nd rfl (Or.inl rfl) (pe_op op_cat (pe_lst (pa_cons (pe_op op_mod (pv 7) pe_int) pa_nil)) (pv 6)))
      (pss_one (ps_set (i := 7) sc_law.nd rfl (Or.inl rfl) (pe_op op_fdivW (pv 7) pe_int)))))
      (pss_cons (ps_if (pt_cmpR (r := rNeD K) (op_neD hr.units) (pe_g (ok_write_number T) (hr.mono (by decide)) pass0S (pa_cons (pv 4) (pa_cons (pv 5) pa_nil))) (pv 6) (nomark _)) (pss_one (ps_ret pe_bl)) pss_nil)
      (pss_cons (ps_set (i := 9) sc_law.nd rfl (Or.inl rfl) (pe_op op_cat (pe_op op_cat (pv 2) (pv 6)) (pv 3)))
      (pss_cons (ps_set (i := 10) sc_law.nd rfl (Or.inl rfl) (pe_callTy (r := rLstQ K) c_list (by rfl) T.z_list (by decide +kernel) (pa_cons (pv 9) pa_nil)))
      (pss_cons (ps_set (i := 11) sc_law.nd rfl (Or.inl rfl) (pe_g (ok_read_number T) (hr.mono (by decide)) pass0S (pa_cons (pv 9) (pa_cons (pe_callB (r := rLenQ K) c_len (by rfl) T.z_len PySem.boot_len (pa_cons (pv 2) pa_nil)) (pa_cons (pv 4) pa_nil)))))
      (pss_cons (ps_if (PW.pt (pw_or (pt_not (pt_val (pe_g (ok__law_is_integer T) (hr.mono (by decide)) pass0S (pa_cons (pv 11) pa_nil)))) (pw_or (pt_cmpR op_ne (pv 11) (pv 5) (nomark _)) (pw_or1 (pt_cmpR (r := rNeD K) (op_neD hr.units) (pv 9) (pv 10) (nomark _)))))) (pss_one (ps_ret pe_bl)) pss_nil)
      (pss_cons (ps_set (i := 12) sc_law.nd rfl (Or.inl rfl) (pe_lst pa_nil))
      (pss_cons (ps_set (i := 6) sc_law.nd rfl (Or.inl rfl) (pe_lst pa_nil))
      (pss_cons (ps_for PassesOwn.never rfl (pi_range1 (by rfl) T.z_range (pa_cons (pe_op op_add pe_int (pe_g (ok__law_draw T) (hr.mono (by decide)) pass0S (pa_cons (pv 1) (pa_cons (pv 0) (pa_cons pe_int pa_nil))))) pa_nil)) (pg_name (i := 8) sc_law.nd rfl (Or.inl rfl)) (pss_cons (ps_set (i := 13) sc_law.nd rfl (Or.inl rfl) (pe_g (ok__law_draw T) (hr.mono (by decide)) pass0S (pa_cons (pv 1) (pa_cons (pv 0) (pa_cons pe_int pa_nil)))))
      (pss_cons (ps_set (i := 14) sc_law.nd rfl (Or.inl rfl) (pe_g (ok__law_draw T) (hr.mono (by decide)) pass0S (pa_cons (pv 1) (pa_cons (pv 0) (pa_cons pe_int pa_nil)))))
      (C8.pss_cut (ps_if (pt_cmpR op_eq (pe_g (ok__law_draw T) (hr.mono (by decide)) pass0S (pa_cons (pv 1) (pa_cons (pv 0) (pa_cons pe_int pa_nil)))) pe_int (nomark _)) (pss_one (ps_asg (pe_ix (r := rIxL K) ix_list (pe_lst (pa_cons (pe_tup (pa_cons pe_int (pa_cons pe_int pa_nil))) (pa_cons (pe_tup (pa_cons pe_int (pa_cons pe_int pa_nil))) (pa_cons (pe_tup (pa_cons pe_int (pa_cons pe_int pa_nil))) pa_nil)))) (pe_g (ok__law_draw T) (hr.mono (by decide)) pass0S (pa_cons (pv 1) (pa_cons (pv 0) (pa_cons pe_int pa_nil)))) (fun _ _ => rfl)) (pg_kT rfl (pg_tup (n := 2) rfl (pgs_cons (pg_name (i := 13) sc_law.nd rfl (Or.inl rfl)) (pgs_cons (pg_name (i := 14) sc_law.nd rfl (Or.inl rfl)) pgs_nil)))))) pss_nil)
      (pss_cons (ps_expr (pe_kBM rfl (pe_bm PySem.F.plainAttrs_list PySem.F.slot_list_append PySem.F.type_list_append mt_append (pv 12) (pa_cons (pe_op op_sub (pe_op op_add (pe_op op_mul pe_int (pv 14)) (pv 13)) pe_int) pa_nil))))
      (pss_one (ps_expr (pe_kBM rfl (pe_bm PySem.F.plainAttrs_list PySem.F.slot_list_extend PySem.F.type_list_extend mt_extend (pv 6) (pa_cons (pe_lst (pa_cons (pv 14) (pa_cons (pv 13) pa_nil))) pa_nil))))))))))
      (pss_cons (ps_if (pt_cmpR (r := rNeD K) (op_neD hr.units) (pe_g (ok_write_point T) (hr.mono (by decide)) pass0S (pa_cons (pe_callTy (r := rTupQ K) c_tuple (by rfl) T.z_tuple (by decide +kernel) (pa_cons (pv 12) pa_nil)) pa_nil)) (pv 6) (nomark _)) (pss_one (ps_ret pe_bl)) pss_nil)
      (pss_cons (ps_set (i := 9) sc_law.nd rfl (Or.inl rfl) (pe_op op_cat (pe_op op_cat (pv 2) (pv 6)) (pv 3)))
      (pss_cons (ps_set (i := 15) sc_law.nd rfl (Or.inl rfl) (pe_g (ok_read_point T) (hr.mono (by decide)) pass0S (pa_cons (pv 9) (pa_cons (pe_callB (r := rLenQ K) c_len (by rfl) T.z_len PySem.boot_len (pa_cons (pv 2) pa_nil)) (pa_cons (pe_callB (r := rLenQ K) c_len (by rfl) T.z_len PySem.boot_len (pa_cons (pv 12) pa_nil)) pa_nil)))))
      (pss_one (ps_ret (pe_and (pe_callB (r := rIsi K) call_isi (by rfl) T.z_isinstance (by decide +kernel) (pa_cons (pv 15) (pa_cons (pe_bltn (v := .ty "tuple") (by rfl) T.z_tuple (by decide +kernel) rfl) pa_nil))) (pe_and (pe_cmpR (r := rEqD K) (op_eqD hr.units) (pv 15) (pe_callTy (r := rTupQ K) c_tuple (by rfl) T.z_tuple (by decide +kernel) (pa_cons (pv 12) pa_nil)) (nomark _)) (pe_one (pe_callB (r := rAll K) (cr_all rfl) (by rfl) T.z_all (by decide +kernel) (pa_cons (pe_lc (own := [("_law_one", 16)]) (g := (gName 16)) (tt := tYes) rfl sc_law.nd (pi_tupK rfl (pv 15)) (blkOk_by (N := ["_law_script", "_law_state", "_law_before", "_law_behind", "_law_width", "_law_number", "_law_due", "_law_rest", "_law_k", "_law_data", "_law_kept", "_law_found", "_law_point", "_law_low", "_law_high", "_law_back", "_law_one"]) (sc := defScope s_law) (by decide +kernel)) (fun _ _ _ _ _ => (pg_name (i := 16) sc_law.nd rfl (Or.inl rfl))) (fun _ _ _ _ _ => pts_nil) (fun _ _ _ _ _ => (pe_g (ok__law_is_integer T) (hr.mono (by decide)) pass0S (pa_cons (pv 16) pa_nil)))) pa_nil)))))))))))))))))))))))))), ?_⟩
    walk_at "cx"
    walk_at "rd"
    refine x_newL fun st H1 hst kp0 hst1 => ?_
    have d1 : Dr K H1 st sc := ⟨0, 0, ns, by decide, by decide, hst1, hlen, hsc.kp kp0⟩
    walk_at "rd"
    refine ⟨st, sc, 4, rfl, by decide, by decide, d1, fun n1 H2 n10 n11 d2 kp1 => ?_⟩
    walk_at "rd"
    obtain ⟨_, _, _, _, _, hst2, _⟩ := id d2
    refine wlc Wk.rng (F1 st) (fun H' => Dr K H' st sc) (fun i acc => ∃ ns : List Int, acc = ns.map V.int ∧ ns.length = i) (fun b e => by rw [e, hst2]; exact fun z => by cases z) (by rw [rgl_len]; omega) (fun _ _ _ => trivial)
      ⟨[], rfl, rfl⟩ d2 (fun D hD H' o m q => q.off (ne_of_none hst2 hD) m) (fun i x acc H' R R0 ex pv dr kp hR _ => ?_) (fun pb H3 acc hpb hpb3 pv d3 kp2 => ?_)
    · obtain ⟨ns, rfl, hl⟩ := pv
      walk_at "rd"
      refine ⟨rfl, ?_⟩
      walk_at "rd"
      refine ⟨st, sc, _, rfl, by omega, by omega, dr, fun d' H'' d0 d1 dr' kp' => hR _ _ kp' dr' ⟨ns ++ [d'], by rw [List.map_append]; rfl, by rw [List.length_append, hl]; rfl⟩⟩
    obtain ⟨bb, rfl, lb⟩ := pv
    rw [rgl_len] at lb
    have npb := ne_of_none hst2 hpb
    walk_at "rd"
    refine ⟨st, sc, 4, rfl, by decide, by decide, d3, fun n2 H4 n20 n21 d4 kp3 => ?_⟩
    have hpb4 := kp3.get hpb3 (Ne.symm npb)
    obtain ⟨_, _, _, _, _, hst4, _⟩ := id d4
    walk_at "rd"
    refine wlc Wk.rng (F1 st) (fun H' => Dr K H' st sc) (fun i acc => ∃ ns : List Int, acc = ns.map V.int ∧ ns.length = i) (fun b e => by rw [e, hst4]; exact fun z => by cases z) (by rw [rgl_len]; omega) (fun _ _ _ => trivial)
      ⟨[], rfl, rfl⟩ d4 (fun D hD H' o m q => q.off (ne_of_none hst4 hD) m) (fun i x acc H' R R0 ex pv dr kp hR _ => ?_) (fun pe H5 acc hpe hpe5 pv d5 kp4 => ?_)
    · obtain ⟨ns, rfl, hl⟩ := pv
      walk_at "rd"
      refine ⟨rfl, ?_⟩
      walk_at "rd"
      refine ⟨st, sc, _, rfl, by omega, by omega, dr, fun d' H'' d0 d1 dr' kp' => hR _ _ kp' dr' ⟨ns ++ [d'], by rw [List.map_append]; rfl, by rw [List.length_append, hl]; rfl⟩⟩
    obtain ⟨be, rfl, le⟩ := pv
    rw [rgl_len] at le
    have npe := ne_of_none hst4 hpe
    have hpb5 := kp4.get hpb4 (Ne.symm npb)
    walk_at "rd"
    refine ⟨st, sc, 4, rfl, by decide, by decide, d5, fun wd H6 w0 w1 d6 kp5 => ?_⟩
    have hpb6 := kp5.get hpb5 (Ne.symm npb)
    have hpe6 := kp5.get hpe5 (Ne.symm npe)
    walk_at "rd"
    refine ⟨st, sc, 4294967296, rfl, by decide, by decide, d6, fun z H7 z0 z1 d7 kp6 => ?_⟩
    have hpb7 := kp6.get hpb6 (Ne.symm npb)
    have hpe7 := kp6.get hpe6 (Ne.symm npe)
    obtain ⟨_, _, _, _, _, hst7, _⟩ := id d7
    walk_at "rd"
    refine x_newL fun q1 H8 hq1 kp7 hq18 => ?_
    have nq1 := ne_of_none hst7 hq1
    walk_at "rd"
    refine ⟨st, sc, 3, rfl, by decide, by decide, d7.kp kp7 id, fun c H9 c0 c1 d9 kp8 => ?_⟩
    have hq19 := kp8.get hq18 (Ne.symm nq1)
    have hpb9 := kp8.get (kp7.get hpb7 id) (Ne.symm npb)
    have hpe9 := kp8.get (kp7.get hpe7 id) (Ne.symm npe)
    have all : ∀ R : VK, (∀ m : Int, 0 ≤ m → m < 4294967296 → R (.int m) H9) → rIxL K (.ref q1) (.int c) H9 R := fun R hR => by
      have c3 : c = 0 ∨ c = 1 ∨ c = 2 := by omega
      rcases c3 with rfl | rfl | rfl
      · exact x_ixL (SqL.of hq19) rfl (hR 0 (by decide) (by decide))
      · exact x_ixL (SqL.of hq19) rfl (hR _ (by decide) (by decide))
      · exact x_ixL (SqL.of hq19) rfl (hR z z0 z1)
    refine all _ fun m m0 m1 => ?_
    walk_at "rd"
    have hnn : 0 ≤ m / 2 ^ (8 * (4 - (1 + wd))).toNat ∧ m / 2 ^ (8 * (4 - (1 + wd))).toNat < 256 ^ (1 + wd).toNat := by
      refine ⟨Int.ediv_nonneg m0 (Int.le_of_lt (Int.pow_pos (by decide))), ?_⟩
      have c4 : wd = 0 ∨ wd = 1 ∨ wd = 2 ∨ wd = 3 := by omega
      rcases c4 with rfl | rfl | rfl | rfl
      · show m / 2 ^ 24 < 256 ^ 1; omega
      · show m / 2 ^ 16 < 256 ^ 2; omega
      · show m / 2 ^ 8 < 256 ^ 3; omega
      · show m / 2 ^ 0 < 256 ^ 4; omega
    generalize m / 2 ^ (8 * (4 - (1 + wd))).toNat = n at *
    obtain ⟨hn0, hn1⟩ := hnn
    have ew : ∃ q : Nat, 1 + wd = (q : Int) ∧ q ≤ 4 ∧ 1 ≤ q := ⟨(1 + wd).toNat, by omega, by omega, by omega⟩
    obtain ⟨wq, ew, wq4, wq1⟩ := ew
    rw [ew] at hn1 ⊢
    rw [Int.toNat_natCast] at hn1
    refine x_newL fun pd H10 hpd kp9 hpd10 => ?_
    walk_at "rd"
    -- due, most significant first, from the last byte on
    refine wfor Wk.rng (fun i σ H' => ∃ (pd : Addr) (u : Option V), σ = [some (.ref sc), some (.ref st), some (.ref pb), some (.ref pe), some (.int wq), some (.int n), some (.ref pd), some (.int (n / 256 ^ i)), u, none, none, none, none, none, none, none, none] ∧
        H' pd = some (.lst ((wn i n).map V.int)) ∧ Kp F0 H9 H') ⟨pd, none, by rw [Int.pow_zero, Int.ediv_one]; rfl, hpd10, kp9⟩ (fun _ _ _ _ => trivial) ?_ ?_
    · rintro i x σ H11 ex ⟨pd, u, rfl, hpd11, kk⟩
      obtain ⟨hi, rfl⟩ := rgl_at ex
      walk_at "rd"
      refine x_newL fun q1 H12 hq1 kp10 hq112 => ?_
      walk_at "rd"
      have hi' : i < wq := hi
      refine x_catL hq112 (kp10.get hpd11 id) (by rw [List.length_map, wn_len]; show 1 + i ≤ sizeLine; rw [sizeLine_eq]; omega) fun l H13 hl kp11 hl13 => ?_
      walk_at "rd"
      refine ⟨l, some (.int (0 + (i : Nat))), ?_, ?_, (kk.trans kp10 fun _ z => z.elim).trans kp11 fun _ z => z.elim⟩
      · rw [show n / 256 ^ (i + 1) = n / 256 ^ i / 256 by rw [Int.ediv_ediv_of_nonneg (Int.le_of_lt (pow256 i)), ← Int.pow_succ]]; rfl
      · rw [hl13, wn_cons]; rfl
    · rintro σ H11 ⟨pd, u, rfl, hpd11, kk⟩
      rw [rgl_len, show ((wq : Int)).toNat = wq by omega] at *
      walk_at "rd"
      refine ⟨wq, n, rfl, by omega, fun pw H12 hpw kp10 hpw12 => ?_⟩
      walk_at "rd"
      refine x_neLI (SqL.of hpw12) (SqL.of (kp10.get hpd11 id)) ?_
      rw [decide_eq_true (rfl : wn wq n = wn wq n)]
      walk_at "rd"
      have hpb12 := kp10.get (kk.get hpb9 id) id
      have hpe12 := kp10.get (kk.get hpe9 id) id
      have hpd12 := kp10.get hpd11 id
      have hwl := wn_len wq n
      refine x_catL hpb12 hpd12 (by simp only [List.length_map, hwl, sizeLine_eq]; omega) fun c1 H13 hc1 kp11 hc113 => ?_
      walk_at "rd"
      refine x_catL hc113 (kp11.get hpe12 id) (by simp only [List.length_append, List.length_map, hwl, sizeLine_eq]; omega) fun c2 H14 hc2 kp12 hc214 => ?_
      rw [← List.map_append, ← List.map_append] at hc214
      walk_at "rd"
      refine x_lstL (SqL.of hc214) fun c3 H15 hc3 kp13 hc315 => ?_
      walk_at "rd"
      have hpb15 := kp13.get (kp12.get (kp11.get hpb12 id) id) id
      rw [List.length_map]
      refine ⟨c2, bb ++ wn wq n ++ be, bb.length, wq, rfl, SqL.of (kp13.get hc214 id), fun H16 kp14 => ?_⟩
      rw [show ((bb ++ wn wq n ++ be).drop bb.length).take wq = wn wq n by rw [List.append_assoc, List.drop_left]; exact List.take_left' hwl, rn_wn _ _ hn0 hn1]
      walk_at "rd"
      refine ⟨n, rfl, ?_⟩
      walk_at "rd"
      rw [decide_eq_true (rfl : n = n)]
      walk_at "rd"
      refine x_neLI (SqL.of (kp14.get (kp13.get hc214 id) id)) (SqL.of (kp14.get hc315 id)) ?_
      rw [decide_eq_true (rfl : bb ++ wn wq n ++ be = bb ++ wn wq n ++ be)]
      walk_at "rd"
      refine x_newL fun pp H17 hpp kp15 hpp17 => ?_
      walk_at "rd"
      refine x_newL fun pu H18 hpu kp16 hpu18 => ?_
      have npp : pp ≠ pu := ne_of_none hpp17 hpu
      have k918 : Kp F0 H9 H18 := (((((((kk.trans kp10 fun _ z => z.elim).trans kp11 fun _ z => z.elim).trans kp12 fun _ z => z.elim).trans kp13 fun _ z => z.elim).trans kp14 fun _ z => z.elim).trans kp15 fun _ z => z.elim).trans kp16 fun _ z => z.elim)
      have d18 := d9.kp k918 id
      obtain ⟨_, _, _, _, _, hst9, _⟩ := id d9
      obtain ⟨_, _, _, _, _, hst18, _⟩ := id d18
      have hpb18 := k918.get hpb9 id
      have hpe18 := k918.get hpe9 id
      have hpp18 := kp16.get hpp17 id
      have nsp : st ≠ pp := ne_of_none ((((((((kk.trans kp10 fun _ z => z.elim).trans kp11 fun _ z => z.elim).trans kp12 fun _ z => z.elim).trans kp13 fun _ z => z.elim).trans kp14 fun _ z => z.elim)).get hst9) id) hpp
      have nsu : st ≠ pu := ne_of_none (kp15.get ((((((((kk.trans kp10 fun _ z => z.elim).trans kp11 fun _ z => z.elim).trans kp12 fun _ z => z.elim).trans kp13 fun _ z => z.elim).trans kp14 fun _ z => z.elim)).get hst9) id) id) hpu
      have nbp : pb ≠ pp := ne_of_none (((((((kk.trans kp10 fun _ z => z.elim).trans kp11 fun _ z => z.elim).trans kp12 fun _ z => z.elim).trans kp13 fun _ z => z.elim).trans kp14 fun _ z => z.elim)).get hpb9 id) hpp
      have nbu : pb ≠ pu := ne_of_none (kp15.get (((((((kk.trans kp10 fun _ z => z.elim).trans kp11 fun _ z => z.elim).trans kp12 fun _ z => z.elim).trans kp13 fun _ z => z.elim).trans kp14 fun _ z => z.elim)).get hpb9 id) id) hpu
      have nep : pe ≠ pp := ne_of_none (((((((kk.trans kp10 fun _ z => z.elim).trans kp11 fun _ z => z.elim).trans kp12 fun _ z => z.elim).trans kp13 fun _ z => z.elim).trans kp14 fun _ z => z.elim)).get hpe9 id) hpp
      have neu : pe ≠ pu := ne_of_none (kp15.get (((((((kk.trans kp10 fun _ z => z.elim).trans kp11 fun _ z => z.elim).trans kp12 fun _ z => z.elim).trans kp13 fun _ z => z.elim).trans kp14 fun _ z => z.elim)).get hpe9 id) id) hpu
      walk_at "rd"
      refine ⟨st, sc, 8, rfl, by decide, by decide, d18, fun dm H19 dm0 dm1 d19 kp17 => ?_⟩
      walk_at "rd"
      -- the point, coordinate by coordinate
      refine wfor Wk.rng (fun i σ H' => ∃ (ps : List Int) (u8 u13 u14 : Option V), ps.length = i ∧ Crd ps ∧
          σ = [some (.ref sc), some (.ref st), some (.ref pb), some (.ref pe), some (.int wq), some (.int n), some (.ref pu), some (.int (n / 256 ^ wq)), u8, some (.ref c2), some (.ref c3), some (.int n), some (.ref pp), u13, u14, none, none] ∧
          H' pp = some (.lst (ps.map V.int)) ∧ H' pu = some (.lst ((wp ps).map V.int)) ∧ H' pb = some (.lst (bb.map V.int)) ∧ H' pe = some (.lst (be.map V.int)) ∧ Dr K H' st sc)
        ⟨[], u, none, none, rfl, (fun _ h => by cases h), rfl, kp17.get hpp18 (Ne.symm nsp), kp17.get hpu18 (Ne.symm nsu), kp17.get hpb18 (Ne.symm npb), kp17.get hpe18 (Ne.symm npe), d19⟩ (fun _ _ _ _ => trivial) ?_ ?_
      · rintro i x σ H20 ex ⟨ps, u8, u13, u14, lps, cps, rfl, hp0, hu0, hb0, he0, d20⟩
        obtain ⟨hi, rfl⟩ := rgl_at ex
        walk_at "rd"
        refine ⟨st, sc, 256, rfl, by decide, by decide, d20, fun lo H21 lo0 lo1 d21 kp18 => ?_⟩
        walk_at "rd"
        refine ⟨st, sc, 256, rfl, by decide, by decide, d21, fun hi' H22 hi0 hi1 d22 kp19 => ?_⟩
        have hp2 := kp19.get (kp18.get hp0 (Ne.symm nsp)) (Ne.symm nsp)
        have hu2 := kp19.get (kp18.get hu0 (Ne.symm nsu)) (Ne.symm nsu)
        have hb2 := kp19.get (kp18.get hb0 (Ne.symm npb)) (Ne.symm npb)
        have he2 := kp19.get (kp18.get he0 (Ne.symm npe)) (Ne.symm npe)
        walk_at "rd"
        refine x_cut (fun σ' H' => ∃ lo hi' : Int, 0 ≤ lo ∧ lo < 256 ∧ 0 ≤ hi' ∧ hi' < 256 ∧ σ' = [some (.ref sc), some (.ref st), some (.ref pb), some (.ref pe), some (.int wq), some (.int n), some (.ref pu), some (.int (n / 256 ^ wq)), some (.int (0 + (i : Nat))), some (.ref c2), some (.ref c3), some (.int n), some (.ref pp), some (.int lo), some (.int hi'), none, none] ∧
          H' pp = some (.lst (ps.map V.int)) ∧ H' pu = some (.lst ((wp ps).map V.int)) ∧ H' pb = some (.lst (bb.map V.int)) ∧ H' pe = some (.lst (be.map V.int)) ∧ Dr K H' st sc) ?_ ?_
        · walk_at "rd"
          refine ⟨st, sc, 3, rfl, by decide, by decide, d22, fun c3 H23 c30 c31 d23 kp20 => ?_⟩
          have hp3 := kp20.get hp2 (Ne.symm nsp)
          have hu3 := kp20.get hu2 (Ne.symm nsu)
          have hb3 := kp20.get hb2 (Ne.symm npb)
          have he3 := kp20.get he2 (Ne.symm npe)
          walk_at "rd"
          refine ite_dec (fun e => ?_) (fun e => ?_)
          · walk_at "rd"
            obtain ⟨_, _, _, _, _, hst23, _⟩ := id d23
            refine x_newT fun t1 H24 ht1 kp21 ht124 => ?_
            walk_at "rd"
            refine x_newT fun t2 H25 ht2 kp22 ht225 => ?_
            walk_at "rd"
            refine x_newT fun t3 H26 ht3 kp23 ht326 => ?_
            walk_at "rd"
            refine x_newL fun tl H27 htl kp24 htl27 => ?_
            have kt : Kp F0 H23 H27 := ((kp21.trans kp22 fun _ z => z.elim).trans kp23 fun _ z => z.elim).trans kp24 fun _ z => z.elim
            have nst : st ≠ tl := ne_of_none (((kp21.trans kp22 fun _ z => z.elim).trans kp23 fun _ z => z.elim).get hst23 id) htl
            walk_at "rd"
            refine ⟨st, sc, 3, rfl, by decide, by decide, d23.kp kt id, fun c4 H28 c40 c41 d28 kp25 => ?_⟩
            have hp4 := kp25.get (kt.get hp3 id) (Ne.symm nsp)
            have hu4 := kp25.get (kt.get hu3 id) (Ne.symm nsu)
            have hb4 := kp25.get (kt.get hb3 id) (Ne.symm npb)
            have he4 := kp25.get (kt.get he3 id) (Ne.symm npe)
            have htl28 := kp25.get htl27 (Ne.symm nst)
            have c33 : c4 = 0 ∨ c4 = 1 ∨ c4 = 2 := by omega
            have h1 := kp25.tup (kp24.tup (kp23.tup (kp22.tup ht124)))
            have h2 := kp25.tup (kp24.tup (kp23.tup ht225))
            have h3 := kp25.tup (kp24.tup ht326)
            rcases c33 with rfl | rfl | rfl
            · refine x_ixL (SqL.of htl28) rfl ?_
              walk_at "rd"
              exact ⟨0, 0, by decide, by decide, by decide, by decide, rfl, hp4, hu4, hb4, he4, d28⟩
            · refine x_ixL (SqL.of htl28) rfl ?_
              walk_at "rd"
              exact ⟨255, 255, by decide, by decide, by decide, by decide, rfl, hp4, hu4, hb4, he4, d28⟩
            · refine x_ixL (SqL.of htl28) rfl ?_
              walk_at "rd"
              exact ⟨0, 128, by decide, by decide, by decide, by decide, rfl, hp4, hu4, hb4, he4, d28⟩
          · exact ⟨lo, hi', lo0, lo1, hi0, hi1, rfl, hp3, hu3, hb3, he3, d23⟩
        · rintro σ' H30 ⟨lo, hi2, lo0, lo1, hi0, hi1, rfl, hp5, hu5, hb5, he5, d30⟩
          obtain ⟨_, _, _, _, _, hst30, _⟩ := id d30
          walk_at "rd"
          have hi9 : i < 8 := by
            have : i < (1 + dm).toNat := hi
            omega
          refine x_app hp5 (by rw [List.length_map]; omega) fun H31 hp6 kp26 => ?_
          have hu6 := kp26.get hu5 (Ne.symm npp)
          have hb6 := kp26.get hb5 nbp
          have he6 := kp26.get he5 nep
          have d31 := d30.kp kp26 nsp
          walk_at "rd"
          refine x_newL fun q5 H32 hq5 kp27 hq532 => ?_
          walk_at "rd"
          refine x_ext (kp27.get hu6 id) hq532 (by rw [List.length_map, wp_len]; show 2 * ps.length + 2 ≤ 16777216; omega) fun H33 hu7 kp28 => ?_
          refine ⟨ps ++ [256 * hi2 + lo - 32768], _, _, _, by rw [List.length_append, lps]; rfl, ?_, rfl, ?_, ?_, kp28.get (kp27.get hb6 id) nbu, kp28.get (kp27.get he6 id) neu, (d31.kp kp27 id).kp kp28 nsu⟩
          · intro y hy
            rcases List.mem_append.mp hy with h | h
            · exact cps y h
            · rw [List.mem_singleton.mp h]; omega
          · rw [kp28.get (kp27.get hp6 id) npp, List.map_append]; rfl
          · rw [hu7, wp_app, List.map_append]
            have e2 : wn 2 (256 * hi2 + lo - 32768 + 32768) = [hi2, lo] := by
              show [] ++ [(256 * hi2 + lo - 32768 + 32768) / 256 % 256] ++ [(256 * hi2 + lo - 32768 + 32768) % 256] = [hi2, lo]
              rw [show (256 * hi2 + lo - 32768 + 32768) / 256 % 256 = hi2 by omega, show (256 * hi2 + lo - 32768 + 32768) % 256 = lo by omega]; rfl
            rw [e2]; rfl
      · rintro σ H20 ⟨ps, u8, u13, u14, lps, cps, rfl, hp0, hu0, hb0, he0, d20⟩
        rw [rgl_len] at lps
        have lps8 : ps.length ≤ 8 := by omega
        walk_at "rd"
        refine x_tupL (SqL.of hp0) fun t1 H21 ht1 kp18 ht121 => ?_
        walk_at "rd"
        refine ⟨t1, ps, rfl, SqT.of ht121, by omega, fun pw2 H22 hpw2 kp19 hpw222 => ?_⟩
        walk_at "rd"
        refine x_neLI (SqL.of hpw222) (SqL.of (kp19.get (kp18.get hu0 id) id)) ?_
        rw [decide_eq_true (rfl : wp ps = wp ps)]
        have hb1 := kp19.get (kp18.get hb0 id) id
        have he1 := kp19.get (kp18.get he0 id) id
        have hu1 := kp19.get (kp18.get hu0 id) id
        have hp1 := kp19.get (kp18.get hp0 id) id
        have hwpl := wp_len ps
        walk_at "rd"
        refine x_catL hb1 hu1 (by simp only [List.length_map, hwpl, sizeLine_eq]; omega) fun e1 H23 he1' kp20 he123 => ?_
        walk_at "rd"
        refine x_catL he123 (kp20.get he1 id) (by simp only [List.length_append, List.length_map, hwpl, sizeLine_eq]; omega) fun e2 H24 he2' kp21 he224 => ?_
        rw [← List.map_append, ← List.map_append] at he224
        have hb2 := kp21.get (kp20.get hb1 id) id
        have hp2 := kp21.get (kp20.get hp1 id) id
        walk_at "rd"
        rw [List.length_map, List.length_map]
        refine ⟨e2, bb ++ wp ps ++ be, bb.length, ps.length, rfl, by omega, SqL.of he224, fun pk H25 hpk kp22 hpk25 => ?_⟩
        rw [rp_wp cps] at hpk25
        walk_at "rd"
        refine x_isiT (SqT.of hpk25) (.base (.tup hpk25)) (b := true) (kit_ty (by decide +kernel)) ?_
        walk_at "rd"
        refine x_tupL (SqL.of (kp22.get hp2 id)) fun t2 H26 ht2 kp23 ht226 => ?_
        refine x_eqTI (SqT.of (kp23.tup hpk25)) (SqT.of ht226) ?_
        rw [decide_eq_true (rfl : ps = ps)]
        walk_at "rd"
        have hpk26 := kp23.tup hpk25
        refine wlcP (ys := (List.replicate ps.length true).map V.bl) Wk.tup (by simp) (by rw [List.length_map]; omega) (fun H' s => SqT.of (s.tup hpk26)) (fun i x y H' R ex ey kp hR => ?_) (fun D H27 hD kp hDl => ?_)
        · obtain ⟨z, ez, rfl⟩ := getE ex
          obtain ⟨z2, ez2, rfl⟩ := getE ey
          rw [List.getElem?_replicate] at ez2
          split at ez2
          · cases ez2
            walk_at "rd"
            refine ⟨rfl, ?_⟩
            walk_at "rd"
            exact ⟨z, rfl, hR H' (Kp.refl _)⟩
          · cases ez2
        · refine x_all (SqL.of hDl) ?_
          rw [show (List.replicate ps.length true).all id = true by simp]
          exact k _
end
theorem all_mk {l : PySem.W.OpenLaw} {w : World} {K : PySem.W.Frag} {h : Heap} {mg : Str → Option Value} {fa : Addr} (X : K.In h) (G : h.Ns mainGlobals mg) (hfa : mg "law" = some (.ref fa))
    {f1 : Addr} {od1 an1 : Option Addr} {sl1 : Array (Option Value)} {oc1 kV1 dc1 pm1 cd1 ct1 : Value}
    {f2 : Addr} {od2 an2 : Option Addr} {sl2 : Array (Option Value)} {oc2 kV2 dc2 pm2 cd2 ct2 : Value}
    {f3 : Addr} {od3 an3 : Option Addr} {sl3 : Array (Option Value)} {oc3 kV3 dc3 pm3 cd3 ct3 : Value}
    {f4 : Addr} {od4 an4 : Option Addr} {sl4 : Array (Option Value)} {oc4 kV4 dc4 pm4 cd4 ct4 : Value}
    {f5 : Addr} {od5 an5 : Option Addr} {sl5 : Array (Option Value)} {oc5 kV5 dc5 pm5 cd5 ct5 : Value}
    {f6 : Addr} {od6 an6 : Option Addr} {sl6 : Array (Option Value)} {oc6 kV6 dc6 pm6 cd6 ct6 : Value}
    {f7 : Addr} {od7 an7 : Option Addr} {sl7 : Array (Option Value)} {oc7 kV7 dc7 pm7 cd7 ct7 : Value}
    {t_OFFSET : Tok}
    (a1 : PySem.W.nsIn K mainGlobals "write_number" = some (some (.ref f1)))
    (l1 : K.lookup f1 = some ⟨oc1, od1, .func (PySem.W.fnOf "write_number" "write_number" (defArgs s_write_number) (defBody s_write_number) (defScope s_write_number) .none kV1 dc1 pm1 an1 cd1 ct1), sl1⟩)
    (c1 : PySem.W.codeIn K cd1 "write_number" = true)
    (k1 : PySem.W.keepIn K (.ref f1) = true)
    (a2 : PySem.W.nsIn K mainGlobals "read_number" = some (some (.ref f2)))
    (l2 : K.lookup f2 = some ⟨oc2, od2, .func (PySem.W.fnOf "read_number" "read_number" (defArgs s_read_number) (defBody s_read_number) (defScope s_read_number) .none kV2 dc2 pm2 an2 cd2 ct2), sl2⟩)
    (c2 : PySem.W.codeIn K cd2 "read_number" = true)
    (k2 : PySem.W.keepIn K (.ref f2) = true)
    (a3 : PySem.W.nsIn K mainGlobals "write_point" = some (some (.ref f3)))
    (l3 : K.lookup f3 = some ⟨oc3, od3, .func (PySem.W.fnOf "write_point" "write_point" (defArgs s_write_point) (defBody s_write_point) (defScope s_write_point) .none kV3 dc3 pm3 an3 cd3 ct3), sl3⟩)
    (c3 : PySem.W.codeIn K cd3 "write_point" = true)
    (k3 : PySem.W.keepIn K (.ref f3) = true)
    (a4 : PySem.W.nsIn K mainGlobals "read_point" = some (some (.ref f4)))
    (l4 : K.lookup f4 = some ⟨oc4, od4, .func (PySem.W.fnOf "read_point" "read_point" (defArgs s_read_point) (defBody s_read_point) (defScope s_read_point) .none kV4 dc4 pm4 an4 cd4 ct4), sl4⟩)
    (c4 : PySem.W.codeIn K cd4 "read_point" = true)
    (k4 : PySem.W.keepIn K (.ref f4) = true)
    (a5 : PySem.W.nsIn K mainGlobals "_law_is_integer" = some (some (.ref f5)))
    (l5 : K.lookup f5 = some ⟨oc5, od5, .func (PySem.W.fnOf "_law_is_integer" "_law_is_integer" (defArgs s__law_is_integer) (defBody s__law_is_integer) (defScope s__law_is_integer) .none kV5 dc5 pm5 an5 cd5 ct5), sl5⟩)
    (c5 : PySem.W.codeIn K cd5 "_law_is_integer" = true)
    (k5 : PySem.W.keepIn K (.ref f5) = true)
    (a6 : PySem.W.nsIn K mainGlobals "_law_draw" = some (some (.ref f6)))
    (l6 : K.lookup f6 = some ⟨oc6, od6, .func (PySem.W.fnOf "_law_draw" "_law_draw" (defArgs s__law_draw) (defBody s__law_draw) (defScope s__law_draw) .none kV6 dc6 pm6 an6 cd6 ct6), sl6⟩)
    (c6 : PySem.W.codeIn K cd6 "_law_draw" = true)
    (k6 : PySem.W.keepIn K (.ref f6) = true)
    (a7 : PySem.W.nsIn K mainGlobals "law" = some (some (.ref f7)))
    (l7 : K.lookup f7 = some ⟨oc7, od7, .func (PySem.W.fnOf "law" "law" (defArgs s_law) (defBody s_law) (defScope s_law) .none kV7 dc7 pm7 an7 cd7 ct7), sl7⟩)
    (c7 : PySem.W.codeIn K cd7 "law" = true)
    (k7 : PySem.W.keepIn K (.ref f7) = true)
    (g_OFFSET : PySem.W.nsIn K mainGlobals "OFFSET" = some (some (.int 32768 t_OFFSET)))
    (z_all : PySem.W.nsIn K mainGlobals "all" = some none)
    (z_bool : PySem.W.nsIn K mainGlobals "bool" = some none)
    (z_int : PySem.W.nsIn K mainGlobals "int" = some none)
    (z_isinstance : PySem.W.nsIn K mainGlobals "isinstance" = some none)
    (z_len : PySem.W.nsIn K mainGlobals "len" = some none)
    (z_list : PySem.W.nsIn K mainGlobals "list" = some none)
    (z_range : PySem.W.nsIn K mainGlobals "range" = some none)
    (z_tuple : PySem.W.nsIn K mainGlobals "tuple" = some none)
    : ∃ fd : FuncData, (∀ (s : Shared) (v : Value), BindsTo s fd ⟨[v], []⟩ [("_law_script", v)]) ∧ ∀ base : Heap, K.In base → base.Ns mainGlobals mg → FnOk l.prog w K mg base CX0 3 fa fd ["_law_script"] (sp_law K) := by
  have T : Txt K mg := { f_write_number := ⟨f1, _, fun_mk (st := s_write_number) l1 c1 k1, PySem.W.mg_of X G a1⟩, f_read_number := ⟨f2, _, fun_mk (st := s_read_number) l2 c2 k2, PySem.W.mg_of X G a2⟩, f_write_point := ⟨f3, _, fun_mk (st := s_write_point) l3 c3 k3, PySem.W.mg_of X G a3⟩, f_read_point := ⟨f4, _, fun_mk (st := s_read_point) l4 c4 k4, PySem.W.mg_of X G a4⟩, f__law_is_integer := ⟨f5, _, fun_mk (st := s__law_is_integer) l5 c5 k5, PySem.W.mg_of X G a5⟩, f__law_draw := ⟨f6, _, fun_mk (st := s__law_draw) l6 c6 k6, PySem.W.mg_of X G a6⟩, f_law := ⟨f7, _, fun_mk (st := s_law) l7 c7 k7, PySem.W.mg_of X G a7⟩, m_OFFSET := ⟨_, PySem.W.mg_of X G g_OFFSET⟩, z_all := PySem.W.mg_none_of X G z_all, z_bool := PySem.W.mg_none_of X G z_bool, z_int := PySem.W.mg_none_of X G z_int, z_isinstance := PySem.W.mg_none_of X G z_isinstance, z_len := PySem.W.mg_none_of X G z_len, z_list := PySem.W.mg_none_of X G z_list, z_range := PySem.W.mg_none_of X G z_range, z_tuple := PySem.W.mg_none_of X G z_tuple }
  have e := hfa.symm.trans (PySem.W.mg_of X G a7)
  cases e
  refine ⟨PySem.W.fnOf "law" "law" (defArgs s_law) (defBody s_law) (defScope s_law) .none kV7 dc7 pm7 an7 cd7 ct7, fun s v => .of_eq rfl, fun base _ _ => ?_⟩
  exact ok_law (fun_mk (st := s_law) l7 c7 k7) T
theorem walk {l : PySem.W.OpenLaw} {q : Program} {loose : List Str} {XP : (Str → Option Value) → Heap → Prop} {YP : World → Heap → Prop} {d : DefRec} {K : Params → PySem.W.Frag} (hn : l.most = some 63) (hdf : d.params.defaults = [])
    (hY : ∀ (w : World) (h : Heap), YP w h → (K w.params).In h)
    (F : ∀ (w : World) (mg : Str → Option Value) (fa : Addr) (h : Heap), (K w.params).In h → h.Ns mainGlobals mg → mg d.name = some (.ref fa) →
      ∃ fd : FuncData, (∀ (s : Shared) (u : Value), BindsTo s fd ⟨[u], []⟩ [("_law_script", u)]) ∧ ∀ base : Heap, (K w.params).In base → base.Ns mainGlobals mg → FnOk l.prog w (K w.params) mg base CX0 3 fa fd ["_law_script"] (sp_law (K w.params))) :
    PySem.W.WalkO q loose XP YP l.row.toRowW d [] (fun f vs => PySem.call f vs) :=
  L2.walk_of (n := 63) (k := 3) (x := "_law_script") (CX := fun _ => CX0) (sp := fun w => sp_law (K w.params)) hn (by decide) hdf ⟨rfl, by decide, by decide⟩ hY F (fun _ _ a ns hl hO hS => ⟨a, ns, rfl, Sc.of hO hS, hl, fun _ => rfl⟩) fun _ _ _ _ _ z => z
end NV
open PySem PySem.W PyProof.Rows
set_option maxRecDepth 100000 in
set_option maxHeartbeats 0 in
theorem PySem.Challenge.cw_nearvault_k02_numbers_and_points_as_byte_holds : PySem.Challenge.rw_nearvault_k02_numbers_and_points_as_byte.Holds := by
  w_on; o_law; k_head; (case hw => w_witness2)
  k_fill
  refine NV.walk (l := PySem.Challenge.rw_nearvault_k02_numbers_and_points_as_byte) rfl rfl (fun w h Y => PySem.W.kIn_of Y) ?F
  case F =>
    intro w mg fa h KX G hmg
    refine' NV.all_mk KX G hmg ?a1 ?l1 ?c1 ?k1 ?a2 ?l2 ?c2 ?k2 ?a3 ?l3 ?c3 ?k3 ?a4 ?l4 ?c4 ?k4 ?a5 ?l5 ?c5 ?k5 ?a6 ?l6 ?c6 ?k6 ?a7 ?l7 ?c7 ?k7 ?g_OFFSET ?z_all ?z_bool ?z_int ?z_isinstance ?z_len ?z_list ?z_range ?z_tuple
    (case a1 => k_is)
    (case l1 => k_is)
    (case c1 => k_is)
    (case k1 => k_is)
    (case a2 => k_is)
    (case l2 => k_is)
    (case c2 => k_is)
    (case k2 => k_is)
    (case a3 => k_is)
    (case l3 => k_is)
    (case c3 => k_is)
    (case k3 => k_is)
    (case a4 => k_is)
    (case l4 => k_is)
    (case c4 => k_is)
    (case k4 => k_is)
    (case a5 => k_is)
    (case l5 => k_is)
    (case c5 => k_is)
    (case k5 => k_is)
    (case a6 => k_is)
    (case l6 => k_is)
    (case c6 => k_is)
    (case k6 => k_is)
    (case a7 => k_is)
    (case l7 => k_is)
    (case c7 => k_is)
    (case k7 => k_is)
    (case g_OFFSET => k_is)
    (case z_all => k_is)
    (case z_bool => k_is)
    (case z_int => k_is)
    (case z_isinstance => k_is)
    (case z_len => k_is)
    (case z_list => k_is)
    (case z_range => k_is)
    (case z_tuple => k_is)
