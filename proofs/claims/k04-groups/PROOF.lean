import PyProof.Rows.All
import Wide.All
import OpenK.AllK
import Wide.FinOn
import HandS.ForMost
import HandS.ForExc
import HandS.Wide
import HandS.IsInst
import HandS.More
import HandS.RevRange
import HandS.TupAny
import HandS.TupLe
import HandS.SortInts
import HandS.Small
import HandS.Codes
import HandS.WideBits
import HandS.ExcIs
import PySem.Challenge.RW_nearvault_k04_groups
set_option Elab.async false
set_option linter.all false
set_option maxRecDepth 100000
set_option maxHeartbeats 4000000
/-! Nearvault: what all claims share. -/
namespace NV
open PySem L2

/-! ### packaged callables -/
section
variable (P : Program) (w : World) (K : PySem.W.Frag) (mg : Str → Option Value) (base : Heap)
/-- the def that the module's name x holds keeps its promise -/
def GF (CX : CXT) (k : Nat) (x : Str) (sp : Sp) : Prop := ∃ f fd ps, FnOk P w K mg base CX k f fd ps sp ∧ mg x = some (.ref f) ∧ PySem.W.keepIn K (.ref f) = true ∧ Binds K fd ps []
/-- the method m of the class at C -/
def GM (CX : CXT) (k : Nat) (C : Addr) (m : Str) (sp : Sp) : Prop := ∃ f fd ps, FnOk P w K mg base CX k f fd ps sp ∧ Meth K C m f ∧ Binds K fd ps []
/-- the class at C by its __init__ -/
def GC (CX : CXT) (k : Nat) (x : Str) (C : Addr) (sp : Sp) : Prop := ∃ f fd ps, FnOk P w K mg base CX k f fd ps sp ∧ Mk K C f ∧ mg x = some (.ref C) ∧ Binds K fd ps []
end

section
variable {X : Cx} {CX : CXT} {k : Nat} {x : Str} {sp : Sp} {E : L2.St → XK} {p pos apos : Pos} {e o : Expr} {es : List Expr} {t : TA} {ta : TE} {C : Addr} {m : Str} {pl : Sem Bool}
theorem pass0S : ∀ σ, PassesAt CX0 X σ ((fun _ => E0) σ) := fun _ _ _ _ _ _ _ h => h.elim
theorem passN : ∀ σ, PassesAt (L2.CX X.prog X.w) X σ ((fun _ => E0) σ) := fun σ pins H s e s' I c => passL pins σ H s e s' I c
theorem pe_g (G : GF X.prog X.w X.K X.mg X.base CX k x sp) (hr : Room k X.A) (hx : ∀ σ, PassesAt CX X σ (E σ)) (ha : PA X (e :: es) t) (hg : Gl X x := by rfl)
    (hdb : (x == ("__debug__" : Str)) = false := by decide) (he : starEach (e :: es) X.env = (false, eval e X.env) :: starEach es X.env := by rfl) (hpl : (backTo pos (starEach es X.env)).any (·.1) = false := by rfl) :
    PE X (.Call (.Name x p) (e :: es) [] pos) (tCallS sp E t) := by
  obtain ⟨f, fd, ps, F, hm, hk, hb⟩ := G
  exact pe_callS F hr hg hm hk hb hx ha hdb he hpl
theorem pe_g0 (G : GF X.prog X.w X.K X.mg X.base CX k x sp) (hr : Room k X.A) (hx : ∀ σ, PassesAt CX X σ (E σ)) (hg : Gl X x := by rfl)
    (hdb : (x == ("__debug__" : Str)) = false := by decide) : PE X (.Call (.Name x p) [] [] pos) (tCallS sp E tNil) := by
  obtain ⟨f, fd, ps, F, hm, hk, hb⟩ := G
  refine ⟨fun pins s σ H Q I h => wpAny_Call_Name_kw (ld_glob I hg hm ?_ hdb)⟩
  exact PySem.W.callWith_K0 I.kIn hk (run_fnS (us := []) F hr hb (hx σ) I .nil h)
/-- o.m(e, ..), what is raised wished for at the caller's slots -/
def tMethS (C : Addr) (m : Str) (sp : Sp) (E : L2.St → XK) (ta : TE) (t : TA) : TE := fun σ H Q => ta σ H fun x H1 => ∃ a dx fs, x = .ref a ∧ H1 a = some (.ins C dx fs) ∧ fs.lookup m = none ∧ t σ H1 fun vs H2 => sp (.ref a :: vs) H2 Q (E σ)
theorem pe_gm (c : Cls X.K C) (G : GM X.prog X.w X.K X.mg X.base CX k C m sp) (ho : PE X o ta) (hr : Room k X.A) (hx : ∀ σ, PassesAt CX X σ (E σ)) (ha : PA X (e :: es) t)
    (he : starEach (e :: es) X.env = (false, eval e X.env) :: starEach es X.env := by rfl) (hpl : (backTo pos (starEach es X.env)).any (·.1) = false := by rfl)
    (ht : eval (.Call (.Attribute o m apos) (e :: es) [] pos) X.env = (do
      let ov ← eval o X.env; standAt apos.atName; let (f, first) ← holding [ov] (getMethod ov m pl); callWith pos f first (backTo pos (starEach (e :: es) X.env)) (backToKw pos (keywordEach [] X.env))) := by rfl) :
    PE X (.Call (.Attribute o m apos) (e :: es) [] pos) (tMethS C m sp E ta t) := by
  obtain ⟨f, fd, ps, F, hm, hb⟩ := G
  refine ⟨fun pins s σ H Q I h => PySem.W.methodCall_KW (pl := pl) (thn (ho.run pins s σ H _ I h) fun u s1 ⟨y, H1, I1, ry, a, dx, fs, ey, ea, l, q⟩ => ?_) ht⟩
  subst ey
  cases (show u = Value.ref a from ry)
  refine getmeth_ok I1 ea c hm l (PySem.W.callWith_K (first := [.ref a]) (h₀ := X.base) I.ok.mod.kin hm.kp (thn (ha.run pos pins s1 σ H1 _ I1 q) fun us s2 ⟨vs, H2, I2, r, q2⟩ => ⟨I2.kIn, ?_⟩) he hpl)
  exact run_fnS (us := .ref a :: us) (vs := .ref a :: vs) F hr hb (hx σ) I2 (.cons rfl r) q2
theorem pe_gm0 (c : Cls X.K C) (G : GM X.prog X.w X.K X.mg X.base CX k C m sp) (ho : PE X o ta) (hr : Room k X.A) (hx : ∀ σ, PassesAt CX X σ (E σ))
    (ht : eval (.Call (.Attribute o m apos) [] [] pos) X.env = (do
      let ov ← eval o X.env; standAt apos.atName; let (f, first) ← holding [ov] (getMethod ov m pl); callWith pos f first (backTo pos (starEach [] X.env)) (backToKw pos (keywordEach [] X.env))) := by rfl) :
    PE X (.Call (.Attribute o m apos) [] [] pos) (tMethS C m sp E ta tNil) := by
  obtain ⟨f, fd, ps, F, hm, hb⟩ := G
  refine ⟨fun pins s σ H Q I h => PySem.W.methodCall_KW (pl := pl) (thn (ho.run pins s σ H _ I h) fun u s1 ⟨y, H1, I1, ry, a, dx, fs, ey, ea, l, q⟩ => ?_) ht⟩
  subst ey
  cases (show u = Value.ref a from ry)
  exact getmeth_ok I1 ea c hm l (PySem.W.callWith_K0 (first := [.ref a]) I1.kIn hm.kp (run_fnS (us := [.ref a]) (vs := [.ref a]) F hr hb (hx σ) I1 (.cons rfl .nil) q))
/-- C(e, ..), what is raised wished for at the caller's slots -/
def tMakeS (C : Addr) (sp : Sp) (E : L2.St → XK) (t : TA) : TE := fun σ H Q => t σ H fun vs H1 => ∀ x dx, H1 x = none → H1 dx = none → dx ≠ x →
  sp (.ref x :: vs) (upd (upd H1 dx (.own x)) x (.ins C dx [])) (fun v H2 => v = .non ∧ Q (.ref x) H2) (E σ)
theorem run_mkS {pins : List (Addr × Obj)} {σ : L2.St} {H : Hp} {s : Shared} {Q : VK} {us : List Value} {vs : List V} {f : Addr} {fd : FuncData} {ps : List Str} (M : Mk X.K C f) (F : FnOk X.prog X.w X.K X.mg X.base CX k f fd ps sp)
    (hr : Room (k + 1) X.A) (hb : Binds X.K fd ps []) (hx : PassesAt CX X σ (E σ)) (I : Inv X pins σ H s) (r : Vals vs us)
    (h : ∀ x dx, H x = none → H dx = none → dx ≠ x → sp (.ref x :: vs) (upd (upd H dx (.own x)) x (.ins C dx [])) (fun v H2 => v = .non ∧ Q (.ref x) H2) (E σ)) :
    wpAny (model X.prog X.w) X.A (call (.ref C) us) (EP X pins σ Q) X.xe s := by
  have z := h (s.heap.objs.size + 1) s.heap.objs.size (I.hok.fresh (Nat.le_succ _)) (I.hok.fresh (Nat.le_refl _)) (Nat.ne_of_lt (Nat.lt_succ_self _))
  have J := Inv.made (C := C) I
  have rr : Vals (V.ref (s.heap.objs.size + 1) :: vs) (Value.ref (s.heap.objs.size + 1) :: us) := .cons rfl r
  have len : (Value.ref (s.heap.objs.size + 1) :: us).length = ps.length := rr.length.symm.trans (F.len _ _ _ _ z)
  have b := hb _ (Value.ref (s.heap.objs.size + 1) :: us) J.kIn (by rw [List.append_nil]; exact len)
  rw [List.append_nil] at b
  refine wpAny_call (make_map (f := f) I.kIn M.makes M.init (beq_iff_eq.mp M.fn) (codeAny_mono (F.run _ X.stack _ _ _ _ _ _ _ (hr.make C us []) (J.env0.make C us []) b rr z) fun res s' hq => ?_))
  cases res with
  | error e => exact hx pins _ _ e s' J hq
  | ok fl =>
    cases fl with
    | ret u =>
      obtain ⟨v, H', I3, rv, ev, q3⟩ := J.after hq
      subst ev
      exact ⟨rv, V.ref (s.heap.objs.size + 1), H', I3, rfl, q3⟩
    | next => cases hq
    | brk => cases hq
    | cont => cases hq
theorem pe_gc (G : GC X.prog X.w X.K X.mg X.base CX k x C sp) (hr : Room (k + 1) X.A) (hx : ∀ σ, PassesAt CX X σ (E σ)) (ha : PA X (e :: es) t) (hg : Gl X x := by rfl)
    (hdb : (x == ("__debug__" : Str)) = false := by decide) (he : starEach (e :: es) X.env = (false, eval e X.env) :: starEach es X.env := by rfl) (hpl : (backTo pos (starEach es X.env)).any (·.1) = false := by rfl) :
    PE X (.Call (.Name x p) (e :: es) [] pos) (tMakeS C sp E t) := by
  obtain ⟨f, fd, ps, F, M, hm, hb⟩ := G
  refine ⟨fun pins s σ H Q I h => wpAny_Call_Name_kw (ld_glob I hg hm ?_ hdb)⟩
  exact PySem.W.callWith_K (h₀ := X.base) I.ok.mod.kin M.kp (thn (ha.run pos pins s σ H _ I h) fun us s1 ⟨vs, H1, I1, r, q⟩ => ⟨I1.kIn, run_mkS M F hr hb (hx σ) I1 r q⟩) he hpl
theorem pe_gc0 (G : GC X.prog X.w X.K X.mg X.base CX k x C sp) (hr : Room (k + 1) X.A) (hx : ∀ σ, PassesAt CX X σ (E σ)) (hg : Gl X x := by rfl)
    (hdb : (x == ("__debug__" : Str)) = false := by decide) : PE X (.Call (.Name x p) [] [] pos) (tMakeS C sp E tNil) := by
  obtain ⟨f, fd, ps, F, M, hm, hb⟩ := G
  refine ⟨fun pins s σ H Q I h => wpAny_Call_Name_kw (ld_glob I hg hm ?_ hdb)⟩
  exact PySem.W.callWith_K0 I.kIn M.kp (run_mkS (us := []) M F hr hb (hx σ) I .nil h)
end

/-! ### heaps: what a step keeps -/
/-- what never changes -/
def Fix : HO → Prop
  | .tup _ => True
  | .frz _ _ => True
  | _ => False
/-- all that was tracked is as it was, but at F (where what never changes is kept too) -/
def Kp (F : Addr → Prop) (H H' : Hp) : Prop := ∀ b o, H b = some o → (F b → Fix o) → H' b = some o
abbrev F0 : Addr → Prop := fun _ => False
abbrev F1 (a : Addr) : Addr → Prop := fun b => b = a
theorem Kp.refl {F : Addr → Prop} (H : Hp) : Kp F H H := fun _ _ h _ => h
theorem Kp.get {F : Addr → Prop} {H H' : Hp} {b : Addr} {o : HO} (s : Kp F H H') (h : H b = some o) (n : ¬ F b) : H' b = some o := s b o h fun z => (n z).elim
theorem Kp.fix {F : Addr → Prop} {H H' : Hp} {b : Addr} {o : HO} (s : Kp F H H') (h : H b = some o) (n : Fix o) : H' b = some o := s b o h fun _ => n
theorem Kp.tup {F : Addr → Prop} {H H' : Hp} {b : Addr} {xs : List V} (s : Kp F H H') (h : H b = some (.tup xs)) : H' b = some (.tup xs) := s.fix h trivial
theorem Kp.free {F : Addr → Prop} {H H' : Hp} {b : Addr} (s : Kp F H H') (h : H' b = none) (n : ¬ F b) : H b = none := by
  cases e : H b with
  | none => rfl
  | some o => rw [s.get e n] at h; cases h
theorem Kp.mono {F G : Addr → Prop} {H H' : Hp} (s : Kp F H H') (h : ∀ b, F b → G b ∨ H b = none) : Kp G H H' := fun b o e n => s b o e fun f => by
  rcases h b f with g | g
  · exact n g
  · rw [e] at g; cases g
theorem Kp.trans {F G : Addr → Prop} {H H1 H2 : Hp} (s : Kp F H H1) (t : Kp G H1 H2) (h : ∀ b, G b → F b ∨ H b = none) : Kp F H H2 := fun b o e n =>
  t b o (s b o e n) fun g => by
    rcases h b g with f | f
    · exact n f
    · rw [e] at f; cases f
theorem Kp.new {H : Hp} {p : Addr} {o : HO} (h : H p = none) : Kp F0 H (upd H p o) := fun b u e _ => by
  rw [upd_ne (ne_of_none e h)]
  exact e
theorem Kp.put {H : Hp} {l : Addr} {o u : HO} (h : H l = some u) (n : ¬ Fix u) : Kp (F1 l) H (upd H l o) := fun b v e k => by
  have nb : b ≠ l := fun z => by
    subst z; rw [h] at e; cases e
    exact n (k rfl)
  rw [upd_ne nb]
  exact e
theorem upd_id {H : Hp} {a : Addr} {o : HO} (h : H a = some o) : upd H a o = H := by
  funext b; unfold upd
  by_cases e : b = a
  · rw [if_pos e, e, h]
  · rw [if_neg e]
theorem Kp.same {H H' : Hp} (s : Same H H') : Kp F0 H H' := fun b o e _ => s b o e
theorem Kp.to_same {H H' : Hp} (s : Kp F0 H H') : Same H H' := fun b o e => s b o e fun z => z.elim
theorem Kp.sqT {F : Addr → Prop} {K : PySem.W.Frag} {H H' : Hp} {a : Addr} {xs : List V} (s : Kp F H H') (h : SqT K H a xs) : SqT K H' a xs := by
  rcases h with (h | ⟨o, h⟩) | h
  · exact .inl (.inl (s.fix h trivial))
  · exact .inl (.inr ⟨o, s.fix h trivial⟩)
  · exact .inr h
theorem Kp.sqL {F : Addr → Prop} {K : PySem.W.Frag} {H H' : Hp} {a : Addr} {xs : List V} (s : Kp F H H') (h : SqL K H a xs) (n : ¬ F a) : SqL K H' a xs := by
  rcases h with (h | ⟨o, h⟩) | h
  · exact .inl (.inl (s.get h n))
  · exact .inl (.inr ⟨o, s.fix h trivial⟩)
  · exact .inr h

/-- the script: read, never written -/
def Sc (K : PySem.W.Frag) (H : Hp) (sc : Addr) (ns : List Int) : Prop := (∃ o, H sc = some (.frz o (.lst (ns.map V.int)))) ∨ ∀ H', SqL K H' sc (ns.map V.int)
theorem Sc.sq {K : PySem.W.Frag} {H : Hp} {sc : Addr} {ns : List Int} (h : Sc K H sc ns) : SqL K H sc (ns.map V.int) := by
  rcases h with ⟨o, h⟩ | h
  · exact .inl (.inr ⟨o, h⟩)
  · exact h H
theorem Sc.kp {K : PySem.W.Frag} {F : Addr → Prop} {H H' : Hp} {sc : Addr} {ns : List Int} (s : Kp F H H') (h : Sc K H sc ns) : Sc K H' sc ns := by
  rcases h with ⟨o, h⟩ | h
  · exact .inl ⟨o, s.fix h trivial⟩
  · exact .inr h

theorem Sc.of {K : PySem.W.Frag} {H : Hp} {a : Addr} {ns : List Int} (o : Only H) (h : SqL K H a (ns.map V.int)) : Sc K H a ns := by
  rcases h with (h | ⟨f, h⟩) | h
  · rcases o a with e | ⟨f, xs, e⟩
    · rw [h] at e; cases e
    · rw [h] at e; cases e
  · exact .inl ⟨f, h⟩
  · exact .inr fun _ => .inr h
/-- a new list, a new tuple -/
def rNewL (xs : List V) (H : Hp) (Q : VK) : Prop := xs.length ≤ sizeLine ∧ ∀ p, H p = none → Q (.ref p) (upd H p (.lst xs))
def rNewT (xs : List V) (H : Hp) (Q : VK) : Prop := xs.length ≤ sizeLine ∧ ∀ p, H p = none → Q (.ref p) (upd H p (.tup xs))

/-! ### readings under names of our own, and the steps that run them -/
section
variable {K : PySem.W.Frag} {σ : L2.St} {H : Hp} {Q : VK} {D : Ends} {ta tb tc te : TE} {t u : TS} {tt tt' : TT} {x y z v : V} {i : Nat} {g : TG} {r r' : R2} {vs : List V} {a p : Addr}
theorem x_seq (h : t { D with nx := u D } σ H) : tSeq t u D σ H := h
theorem x_cut (M : L2.St → Hp → Prop) (h : t { D with nx := M } σ H) (h2 : ∀ σ' H', M σ' H' → u D σ' H') : C8.tCut t u D σ H := ⟨M, h, h2⟩
theorem x_next (h : D.nx σ H) : tNext D σ H := h
theorem x_asg (h : te σ H fun x H1 => g x σ H1 D.nx) : tAsg te g D σ H := h
theorem x_drop (h : te σ H fun _ H1 => D.nx σ H1) : tDrop te D σ H := h
theorem x_ret (h : te σ H D.rt) : tRet te D σ H := h
theorem x_retN (h : D.rt .non H) : tRetN D σ H := h
theorem x_ifS (h : tt σ H fun b H1 => if b = true then t D σ H1 else u D σ H1) : tIfS tt t u D σ H := h
theorem x_var (e : σ[i]? = some (some v)) (h : Q v H) : tVar i σ H Q := ⟨v, e, h⟩
theorem x_c (h : Q v H) : tC v σ H Q := h
theorem x_op (h : ta σ H fun x H1 => tb σ H1 fun y H2 => r x y H2 Q) : tOp r ta tb σ H Q := h
theorem x_un {r : V → Hp → VK → Prop} (h : ta σ H fun x H1 => r x H1 Q) : tUn r ta σ H Q := h
theorem x_neg {f : Int → V} {m : Int} (h : Q (f m) H) : rU f (.int m) H Q := ⟨m, rfl, h⟩
theorem x_I0 {f : Int → Int → V} {m n : Int} (h : Q (f m n) H) : rI0 f (.int m) (.int n) H Q := ⟨m, n, rfl, rfl, h⟩
theorem x_I {C : Int → Int → Prop} {f : Int → Int → V} {m n : Int} (c : C m n) (h : Q (f m n) H) : rI C f (.int m) (.int n) H Q := ⟨m, n, rfl, rfl, c, h⟩
theorem x_eqI {m n : Int} (h : Q (.bl (decide (m = n))) H) : rEq (.int m) (.int n) H Q := ⟨rfl, by rw [show decide (V.int m = V.int n) = decide (m = n) by simp]; exact h⟩
theorem x_neI {m n : Int} (h : Q (.bl (!decide (m = n))) H) : rNe (.int m) (.int n) H Q := ⟨rfl, by rw [show decide (V.int m = V.int n) = decide (m = n) by simp]; exact h⟩
theorem x_eqS {m n : Str} (h : Q (.bl (decide (m = n))) H) : rEq (.str m) (.str n) H Q := ⟨rfl, by rw [show decide (V.str m = V.str n) = decide (m = n) by simp]; exact h⟩
theorem x_neS {m n : Str} (h : Q (.bl (!decide (m = n))) H) : rNe (.str m) (.str n) H Q := ⟨rfl, by rw [show decide (V.str m = V.str n) = decide (m = n) by simp]; exact h⟩
theorem x_eqB {m n : Bool} (h : Q (.bl (decide (m = n))) H) : rEq (.bl m) (.bl n) H Q := ⟨rfl, by rw [show decide (V.bl m = V.bl n) = decide (m = n) by simp]; exact h⟩
theorem x_neB {m n : Bool} (h : Q (.bl (!decide (m = n))) H) : rNe (.bl m) (.bl n) H Q := ⟨rfl, by rw [show decide (V.bl m = V.bl n) = decide (m = n) by simp]; exact h⟩
theorem x_tst {R : Bool → Hp → Prop} (h : te σ H fun x H1 => ∃ k, x = .bl k ∧ R k H1) : tTest te σ H R := h
theorem x_tB {R : Bool → Hp → Prop} (h : te σ H fun x H1 => ∃ k, x = .bl k ∧ R k H1) : tB te σ H R := h
theorem x_bl {b : Bool} {R : Bool → Prop} (h : R b) : ∃ k, V.bl b = .bl k ∧ R k := ⟨b, rfl, h⟩
theorem x_ifNT {A B : Prop} (h : B) : if (!true) = true then A else B := h
theorem x_ifNF {A B : Prop} (h : A) : if (!false) = true then A else B := h
theorem x_yes {R : Bool → Hp → Prop} (h : R true H) : tYes σ H R := h
theorem x_ifTT {A B : Prop} (h : A) : if true = true then A else B := by rw [if_pos rfl]; exact h
theorem x_ifFF {A B : Prop} (h : B) : if false = true then A else B := by rw [if_neg Bool.false_ne_true]; exact h
theorem x_bnot {b : Bool} {R : Bool → Prop} (h : R (!b)) : ∃ k, V.bl (!b) = .bl k ∧ R k := ⟨_, rfl, h⟩
theorem x_and {R : Bool → Hp → Prop} (h : tt σ H fun c H1 => if c = true then tt' σ H1 R else R false H1) : tAnd tt tt' σ H R := h
theorem x_or {R : Bool → Hp → Prop} (h : tt σ H fun c H1 => if c = true then R true H1 else tt' σ H1 R) : tOr tt tt' σ H R := h
theorem x_not {R : Bool → Hp → Prop} (h : tt σ H fun c H1 => R (!c) H1) : tNot tt σ H R := h
theorem x_andV (h : ta σ H fun x H1 => ∃ c, x = .bl c ∧ if c = true then tb σ H1 Q else Q (.bl false) H1) : tAndV ta tb σ H Q := h
theorem x_orV (h : ta σ H fun x H1 => ∃ c, x = .bl c ∧ if c = true then Q (.bl true) H1 else tb σ H1 Q) : tOrV ta tb σ H Q := h
theorem x_notV (h : ta σ H fun x H1 => ∃ c, x = .bl c ∧ Q (.bl (!c)) H1) : tNotV ta σ H Q := h
theorem x_ifE (h : tt σ H fun c H1 => if c = true then ta σ H1 Q else tb σ H1 Q) : tIf tt ta tb σ H Q := h
theorem x_ch (h : ta σ H fun x H1 => tb σ H1 fun y H2 => r x y H2 fun z H3 => ∃ k, z = .bl k ∧ (if k = true then tc σ H3 fun w' H4 => r' y w' H4 Q else Q (.bl false) H3)) : tChain r r' ta tb tc σ H Q := h
theorem x_nil {R : List V → Hp → Prop} (h : R [] H) : tNil σ H R := h
theorem x_cons {tr : TA} {R : List V → Hp → Prop} (h : ta σ H fun x H1 => tr σ H1 fun xs H2 => R (x :: xs) H2) : tCons ta tr σ H R := h
theorem x_tup {ts : TA} (h : ts σ H fun xs H1 => rNewT xs H1 Q) : tTup ts σ H Q := h
theorem x_lst {ts : TA} (h : ts σ H fun xs H1 => rNewL xs H1 Q) : tLst ts σ H Q := h
theorem x_newL {xs : List V} (h : ∀ p H1, H p = none → Kp F0 H H1 → H1 p = some (.lst xs) → Q (.ref p) H1) (h1 : Nat.ble xs.length 1000 = true := by rfl) : rNewL xs H Q := ⟨Nat.le_trans (Nat.le_of_ble_eq_true h1) (by decide), fun p hp => h p _ hp (Kp.new hp) upd_same⟩
theorem x_newT {xs : List V} (h : ∀ p H1, H p = none → Kp F0 H H1 → H1 p = some (.tup xs) → Q (.ref p) H1) (h1 : Nat.ble xs.length 1000 = true := by rfl) : rNewT xs H Q := ⟨Nat.le_trans (Nat.le_of_ble_eq_true h1) (by decide), fun p hp => h p _ hp (Kp.new hp) upd_same⟩
theorem x_cb {rr : List V → Hp → VK → Prop} {ts : TA} (h : ts σ H fun vs H1 => rr vs H1 Q) : tCB rr ts σ H Q := h
theorem x_callS {sp : Sp} {E : L2.St → XK} {ts : TA} (h : ts σ H fun vs H1 => sp vs H1 Q (E σ)) : tCallS sp E ts σ H Q := h
theorem x_gn {R : L2.St → Hp → Prop} (h : R (σ.set i (some v)) H) : gName i v σ H R := h
/-- a[i], o[i] = v -/
theorem x_ixL {xs : List V} {j : Int} (h : SqL K H p xs) (e : atI xs j = some v) (q : Q v H) : rIxL K (.ref p) (.int j) H Q := ⟨p, xs, j, v, rfl, rfl, h, e, q⟩
theorem x_ixT {xs : List V} {j : Int} (h : SqT K H p xs) (e : atI xs j = some v) (q : Q v H) : rIxT K (.ref p) (.int j) H Q := ⟨p, xs, j, v, rfl, rfl, h, e, q⟩
theorem x_sub {R : L2.St → Hp → Prop} {s : TSet} (h : ta σ H fun o H1 => tb σ H1 fun i H2 => s o i v H2 fun H3 => R σ H3) : gSub ta tb s v σ H R := h
theorem x_setL {xs : List V} {k : Int} {j : Nat} {R : Hp → Prop} (h : H p = some (.lst xs)) (e : ixN xs.length k = some j) (q : R (upd H p (.lst (xs.set j v)))) : rSetL (.ref p) (.int k) v H R := ⟨p, xs, k, j, rfl, rfl, h, e, q⟩
end
/-- len(xs) -/
def rLenQ (K : PySem.W.Frag) : List V → Hp → VK → Prop := fun xs H Q => ∃ p ys, xs = [.ref p] ∧ (SqL K H p ys ∨ SqT K H p ys) ∧ Q (.int ys.length) H
theorem c_len {X : Cx} : CallR X (.builtin "len") (rLenQ X.K) := call_len_seq
theorem x_lenL {K : PySem.W.Frag} {H : Hp} {Q : VK} {p : Addr} {ys : List V} (h : SqL K H p ys) (q : Q (.int ys.length) H) : rLenQ K [.ref p] H Q := ⟨p, ys, rfl, .inl h, q⟩
theorem x_lenT {K : PySem.W.Frag} {H : Hp} {Q : VK} {p : Addr} {ys : List V} (h : SqT K H p ys) (q : Q (.int ys.length) H) : rLenQ K [.ref p] H Q := ⟨p, ys, rfl, .inr h, q⟩
/-- int(n), int(flag) -/
def rIntQ : List V → Hp → VK → Prop := fun xs H Q => (∃ i, xs = [.int i] ∧ Q (.int i) H) ∨ ∃ k, xs = [.bl k] ∧ Q (.int (if k then 1 else 0)) H
theorem c_int {X : Cx} : CallR X (.type "int") rIntQ := call_int1
theorem x_intI {H : Hp} {Q : VK} {i : Int} (q : Q (.int i) H) : rIntQ [.int i] H Q := .inl ⟨i, rfl, q⟩
theorem x_intB {H : Hp} {Q : VK} {k : Bool} (q : Q (.int (if k then 1 else 0)) H) : rIntQ [.bl k] H Q := .inr ⟨k, rfl, q⟩
theorem ite_dec {p : Prop} [Decidable p] {A B : Prop} (h1 : p → A) (h2 : ¬ p → B) : if decide p = true then A else B := by
  by_cases h : p
  · rw [if_pos (decide_eq_true h)]; exact h1 h
  · rw [if_neg (by simpa using h)]; exact h2 h
theorem ite_ndec {p : Prop} [Decidable p] {A B : Prop} (h1 : ¬ p → A) (h2 : p → B) : if (!decide p) = true then A else B := by
  by_cases h : p
  · rw [if_neg (by simp [h])]; exact h2 h
  · rw [if_pos (by simp [h])]; exact h1 h
theorem ite_bool {b : Bool} {A B : Prop} (h1 : b = true → A) (h2 : b = false → B) : if b = true then A else B := by
  cases b
  · rw [if_neg Bool.false_ne_true]; exact h2 rfl
  · rw [if_pos rfl]; exact h1 rfl
/-- an item by its place -/
theorem atI_at {α : Type} {xs : List α} {j : Int} {v : α} (k : Nat) (e : j = (k : Int)) (h : xs[k]? = some v) : atI xs j = some v := by subst e; exact atI_nat h
theorem ixN_at {n : Nat} {j : Int} (k : Nat) (e : j = (k : Int)) (h : k < n) : ixN n j = some k := by
  subst e; unfold ixN
  rw [if_pos (by omega), if_pos (by omega)]; rfl
theorem fdiv_ok {a n : Int} (h0 : 0 < n) (h1 : n < 2 ^ 64) : CDivW a n := wide_div (b := 64) h0 (by omega) (by decide) (by decide)

/-! ### loops -/
/-- J walks xs while G holds -/
structure Wk (J : It) (G : Hp → Prop) (xs : List V) : Prop where
  go : ∀ i H, i < xs.length → G H → J.go i H
  yld : ∀ i H x H', i < xs.length → G H → J.yld i H x H' → H = H' ∧ xs[i]? = some x
  stop : ∀ H, G H → J.stop xs.length H
theorem Wk.list {K : PySem.W.Frag} {a : Addr} {xs : List V} : Wk (Itl K a) (fun H => SqL K H a xs) xs where
  go := fun i H h g => ⟨xs, xs[i], g, by simp [h]⟩
  yld := fun i H x H' _ g y => ⟨y.1.symm, y.2 xs g⟩
  stop := fun H g => ⟨xs, g, Nat.le_refl _⟩
theorem Wk.tup {K : PySem.W.Frag} {a : Addr} {xs : List V} : Wk (Itt K a) (fun H => SqT K H a xs) xs where
  go := fun i H h g => ⟨xs, xs[i], g, by simp [h]⟩
  yld := fun i H x H' _ g y => ⟨y.1.symm, y.2 xs g⟩
  stop := fun H g => ⟨xs, g, Nat.le_refl _⟩
def rgl (lo : Int) (n : Nat) : List V := (List.range n).map fun i => V.int (lo + (i : Nat))
theorem rgl_len {lo : Int} {n : Nat} : (rgl lo n).length = n := by unfold rgl; simp
theorem rgl_at {lo : Int} {n i : Nat} {x : V} (h : (rgl lo n)[i]? = some x) : i < n ∧ x = .int (lo + (i : Nat)) := by
  unfold rgl at h
  rw [List.getElem?_map] at h
  by_cases hi : i < n
  · rw [List.getElem?_range hi] at h
    exact ⟨hi, (Option.some.inj h).symm⟩
  · rw [List.getElem?_eq_none (by simpa using hi)] at h
    cases h
theorem Wk.rng {lo : Int} {n : Nat} : Wk (Itr lo n) (fun _ => True) (rgl lo n) where
  go := fun i H h _ => by rw [rgl_len] at h; exact h
  yld := fun i H x H' h _ y => by
    rw [rgl_len] at h
    refine ⟨y.1.symm, ?_⟩
    unfold rgl
    rw [List.getElem?_map, List.getElem?_range h, y.2]; rfl
  stop := fun H _ => by show n ≤ _; rw [rgl_len]; exact Nat.le_refl _
theorem wfor {J : It} {G : Hp → Prop} {xs : List V} {g : TG} {tb : TS} {D : Ends} {σ : L2.St} {H : Hp} (W : Wk J G xs) (Pv : Nat → L2.St → Hp → Prop) (h0 : Pv 0 σ H) (hG : ∀ i σ H, Pv i σ H → G H)
    (hs : ∀ i x σ H, xs[i]? = some x → Pv i σ H → g x σ H fun σ2 H2 => tb { D with nx := Pv (i + 1), ct := Pv (i + 1), bk := D.nx } σ2 H2) (hd : ∀ σ H, Pv xs.length σ H → D.nx σ H) :
    ∃ W : Nat → Nat → L2.St → Hp → Prop, (∃ m, W 0 m σ H) ∧ ∀ i m σ H, W i m σ H →
      (J.stop i H ∧ D.nx σ H) ∨ (J.go i H ∧ ∃ N : L2.St → Hp → Prop, (∀ σ' H', N σ' H' → ∃ m', m' < m ∧ W (i + 1) m' σ' H') ∧ ∀ x H', J.yld i H x H' → g x σ H' fun σ2 H2 => tb { D with nx := N, ct := N, bk := D.nx } σ2 H2) := by
  refine ⟨fun i m σ H => m = xs.length - i ∧ i ≤ xs.length ∧ Pv i σ H, ⟨_, rfl, Nat.zero_le _, h0⟩, ?_⟩
  rintro i m σ H ⟨rfl, hi, p⟩
  by_cases hlt : i < xs.length
  · refine .inr ⟨W.go i H hlt (hG _ _ _ p), Pv (i + 1), fun σ' H' p' => ⟨xs.length - (i + 1), by omega, rfl, hlt, p'⟩, fun x H' y => ?_⟩
    obtain ⟨rfl, e⟩ := W.yld i H x H' hlt (hG _ _ _ p) y
    exact hs i x σ _ e p
  · obtain rfl : i = xs.length := by omega
    exact .inl ⟨W.stop H (hG _ _ _ p), hd σ H p⟩
/-- a comprehension: F what its turns may change, S what stays true of the heap, Pv of the list so far -/
theorem wlc {J : It} {G : Hp → Prop} {xs : List V} {g : TG} {tt : TT} {te : TE} {vs : List Nat} {σ : L2.St} {H0 : Hp} {Qd : Addr → Hp → Prop} (W : Wk J G xs) (F : Addr → Prop) (S : Hp → Prop) (Pv : Nat → List V → Prop)
    (hF : ∀ b, F b → H0 b ≠ none) (hz : xs.length ≤ 100000) (hG : ∀ H', S H' → Kp F H0 H' → G H') (h0 : Pv 0 []) (hS : S H0) (hSt : ∀ D, H0 D = none → ∀ H' o, (∀ u, H' D = some u → ¬ Fix u) → S H' → S (upd H' D o))
    (hs : ∀ i x acc H' (R : V → Hp → Prop) (R0 : Hp → Prop), xs[i]? = some x → Pv i acc → S H' → Kp F H0 H' → (∀ y H4, Kp F H' H4 → S H4 → Pv (i + 1) (acc ++ [y]) → R y H4) → (∀ H4, Kp F H' H4 → S H4 → Pv (i + 1) acc → R0 H4) →
      g x (wipe σ vs) H' fun σ2 H2 => wipe σ2 vs = wipe σ vs ∧ tt σ2 H2 fun b H3 => if b = true then te σ2 H3 R else R0 H3)
    (hd : ∀ D H' acc, H0 D = none → H' D = some (.lst acc) → Pv xs.length acc → S H' → Kp F H0 H' → Qd D H') :
    ∀ D, H0 D = none → ∃ W : Nat → Nat → Hp → Prop, (∃ m, W 0 m (upd H0 D (.lst []))) ∧ ∀ i m H, W i m H →
      (J.stop i H ∧ Qd D H) ∨ (J.go i H ∧ ∃ Nx : Hp → Prop, (∀ H', Nx H' → ∃ m', m' < m ∧ W (i + 1) m' H') ∧ ∀ x H', J.yld i H x H' → g x (wipe σ vs) H' fun σ2 H2 => wipe σ2 vs = wipe σ vs ∧ tt σ2 H2 fun b H3 =>
        if b = true then te σ2 H3 fun y H4 => ∃ acc, H4 D = some (.lst acc) ∧ acc.length < sizeLine ∧ Nx (upd H4 D (.lst (acc ++ [y]))) else Nx H3) := by
  intro D hD
  have nFD : ¬ F D := fun z => hF D z hD
  refine ⟨fun i m H' => m = xs.length - i ∧ i ≤ xs.length ∧ ∃ acc, H' D = some (.lst acc) ∧ acc.length ≤ i ∧ Pv i acc ∧ S H' ∧ Kp F H0 H',
    ⟨_, rfl, Nat.zero_le _, [], upd_same, Nat.le_refl _, h0, hSt D hD _ _ (fun u z => by rw [hD] at z; cases z) hS, (Kp.new hD).mono fun b z => z.elim⟩, ?_⟩
  rintro i m H ⟨rfl, hi, acc, hacc, hl, p, hSH, kp⟩
  by_cases hlt : i < xs.length
  · refine .inr ⟨W.go i H hlt (hG _ hSH kp), _, fun H' z => ⟨xs.length - (i + 1), by omega, z⟩, fun x H' y => ?_⟩
    obtain ⟨rfl, e⟩ := W.yld i H x H' hlt (hG _ hSH kp) y
    refine hs i x acc _ _ _ e p hSH kp (fun y H4 k4 s4 p4 => ?_) (fun H4 k4 s4 p4 => ?_)
    · refine ⟨acc, k4.get hacc nFD, Nat.lt_of_le_of_lt (Nat.le_trans hl (Nat.le_trans hi hz)) (by decide), rfl, hlt, acc ++ [y], upd_same, by rw [List.length_append, List.length_singleton]; omega, p4, hSt D hD _ _ (fun u z => by rw [k4.get hacc nFD] at z; cases z; exact id) s4, ?_⟩
      intro b o hb n
      rw [upd_ne (ne_of_none hb hD)]
      exact k4 b o (kp b o hb n) n
    · exact ⟨rfl, hlt, acc, k4.get hacc nFD, by omega, p4, s4, fun b o hb n => k4 b o (kp b o hb n) n⟩
  · obtain rfl : i = xs.length := by omega
    exact .inl ⟨W.stop H (hG _ hSH kp), hd D H acc hD hacc p hSH kp⟩
/-- a comprehension that changes nothing and keeps all: the list ys comes -/
theorem wlcP {J : It} {G : Hp → Prop} {xs ys : List V} {g : TG} {te : TE} {vs : List Nat} {σ : L2.St} {H0 : Hp} {Qd : Addr → Hp → Prop} (W : Wk J G xs) (hl : ys.length = xs.length) (hz : xs.length ≤ 100000) (hG : ∀ H', Kp F0 H0 H' → G H')
    (hs : ∀ (i : Nat) x y H' (R : V → Hp → Prop), xs[i]? = some x → ys[i]? = some y → Kp F0 H0 H' → (∀ H4, Kp F0 H' H4 → R y H4) → g x (wipe σ vs) H' fun σ2 H2 => wipe σ2 vs = wipe σ vs ∧ te σ2 H2 R)
    (hd : ∀ D H', H0 D = none → Kp F0 H0 H' → H' D = some (.lst ys) → Qd D H') :
    ∀ D, H0 D = none → ∃ W : Nat → Nat → Hp → Prop, (∃ m, W 0 m (upd H0 D (.lst []))) ∧ ∀ i m H, W i m H →
      (J.stop i H ∧ Qd D H) ∨ (J.go i H ∧ ∃ Nx : Hp → Prop, (∀ H', Nx H' → ∃ m', m' < m ∧ W (i + 1) m' H') ∧ ∀ x H', J.yld i H x H' → g x (wipe σ vs) H' fun σ2 H2 => wipe σ2 vs = wipe σ vs ∧ tYes σ2 H2 fun b H3 =>
        if b = true then te σ2 H3 fun y H4 => ∃ acc, H4 D = some (.lst acc) ∧ acc.length < sizeLine ∧ Nx (upd H4 D (.lst (acc ++ [y]))) else Nx H3) := by
  refine wlc W F0 (fun _ => True) (fun i acc => acc = ys.take i) (fun b z => z.elim) hz (fun H' _ k => hG H' k) rfl trivial (fun _ _ _ _ _ _ => trivial) (fun i x acc H' R R0 e p _ kp h1 _ => ?_) (fun D H' acc hD hacc p _ kp => hd D H' hD kp (by rw [hacc, p, ← hl, List.take_length]))
  have hi : i < ys.length := by rw [hl]; exact (List.getElem?_eq_some_iff.mp e).1
  refine hs i x ys[i] H' R e (by simp [hi]) kp fun H4 k4 => h1 _ _ k4 trivial ?_
  rw [p, List.take_succ, List.getElem?_eq_getElem hi]; rfl

section
variable {K : PySem.W.Frag} {σ : L2.St} {H : Hp} {Q : VK} {D : Ends} {ta tb tc te : TE} {t u : TS} {tt tt' : TT} {x y z v : V} {i : Nat} {g : TG} {a p : Addr} {wi : TI} {ts : TA} {R : It → Hp → Prop}
theorem x_for (h : wi σ H fun J H1 => ∃ W : Nat → Nat → L2.St → Hp → Prop, (∃ m, W 0 m σ H1) ∧ ∀ i m σ H, W i m σ H →
    (J.stop i H ∧ D.nx σ H) ∨ (J.go i H ∧ ∃ N : L2.St → Hp → Prop, (∀ σ' H', N σ' H' → ∃ m', m' < m ∧ W (i + 1) m' σ' H') ∧ ∀ x H', J.yld i H x H' → g x σ H' fun σ2 H2 => t { D with nx := N, ct := N, bk := D.nx } σ2 H2)) : tFor wi g t D σ H := h
theorem x_lc {vs : List Nat} (h : wi σ H fun J H1 => ∀ D, H1 D = none → ∃ W : Nat → Nat → Hp → Prop, (∃ m, W 0 m (upd H1 D (.lst []))) ∧ ∀ i m H, W i m H →
    (J.stop i H ∧ Q (.ref D) H) ∨ (J.go i H ∧ ∃ Nx : Hp → Prop, (∀ H', Nx H' → ∃ m', m' < m ∧ W (i + 1) m' H') ∧ ∀ x H', J.yld i H x H' → g x (wipe σ vs) H' fun σ2 H2 => wipe σ2 vs = wipe σ vs ∧ tt σ2 H2 fun b H3 =>
      if b = true then te σ2 H3 fun y H4 => ∃ acc, H4 D = some (.lst acc) ∧ acc.length < sizeLine ∧ Nx (upd H4 D (.lst (acc ++ [y]))) else Nx H3)) : tLc wi g tt te vs σ H Q := h
theorem x_rng1 (h : ts σ H fun vs H1 => ∃ j : Int, vs = [.int j] ∧ -(2 ^ 62) ≤ j ∧ j < 2 ^ 62 ∧ R (Itr 0 j.toNat) H1) : iRng1 ts σ H R := h
theorem x_rg1 {S : Int → Prop} {n : Int} (h1 : -(2 ^ 62) ≤ n) (h2 : n < 2 ^ 62) (h : S n) : ∃ j : Int, [V.int n] = [.int j] ∧ -(2 ^ 62) ≤ j ∧ j < 2 ^ 62 ∧ S j := ⟨n, rfl, h1, h2, h⟩
theorem x_rng2 (h : ts σ H fun vs H1 => ∃ i j : Int, vs = [.int i, .int j] ∧ (-(2 ^ 62) ≤ i ∧ i < 2 ^ 62 ∧ -(2 ^ 62) ≤ j ∧ j < 2 ^ 62) ∧ R (Itr i (j - i).toNat) H1) : iRng2 ts σ H R := h
theorem x_rg2 {S : Int → Int → Prop} {m n : Int} (h1 : -(2 ^ 62) ≤ m ∧ m < 2 ^ 62 ∧ -(2 ^ 62) ≤ n ∧ n < 2 ^ 62) (h : S m n) : ∃ i j : Int, [V.int m, V.int n] = [.int i, .int j] ∧ (-(2 ^ 62) ≤ i ∧ i < 2 ^ 62 ∧ -(2 ^ 62) ≤ j ∧ j < 2 ^ 62) ∧ S i j := ⟨m, n, rfl, h1, h⟩
theorem x_iL (h : te σ H fun x H1 => ∃ a, x = .ref a ∧ (∃ xs, SqL K H1 a xs) ∧ R (Itl K a) H1) : iList K te σ H R := h
theorem x_iL1 {xs : List V} {S : Addr → Prop} (h : SqL K H a xs) (q : S a) : ∃ b, V.ref a = .ref b ∧ (∃ xs, SqL K H b xs) ∧ S b := ⟨a, rfl, ⟨xs, h⟩, q⟩
theorem x_iT (h : te σ H fun x H1 => ∃ a, x = .ref a ∧ (∃ xs, SqT K H1 a xs) ∧ R (Itt K a) H1) : iTup K te σ H R := h
theorem x_iT1 {xs : List V} {S : Addr → Prop} (h : SqT K H a xs) (q : S a) : ∃ b, V.ref a = .ref b ∧ (∃ xs, SqT K H b xs) ∧ S b := ⟨a, rfl, ⟨xs, h⟩, q⟩
theorem x_sum {ns : List Int} (h : SqL K H a (ns.map V.int)) (q : Q (.int ns.sum) H) : rSum K [.ref a] H Q := ⟨a, ns, rfl, h, q⟩
theorem x_max {ns : List Int} (h : SqL K H a (ns.map V.int)) (h0 : 0 < ns.length) (q : ∀ m, m ∈ ns → (∀ y, y ∈ ns → y ≤ m) → Q (.int m) H) : rMax K [.ref a] H Q := ⟨a, ns, rfl, h, h0, q⟩
theorem x_min {ns : List Int} (h : SqL K H a (ns.map V.int)) (h0 : 0 < ns.length) (q : ∀ m, m ∈ ns → (∀ y, y ∈ ns → m ≤ y) → Q (.int m) H) : rMin K [.ref a] H Q := ⟨a, ns, rfl, h, h0, q⟩
end
/-- abs, max, min of two -/
def rAbsQ : List V → Hp → VK → Prop := fun xs H Q => ∃ i, xs = [.int i] ∧ Q (.int (if i < 0 then -i else i)) H
theorem c_abs {X : Cx} : CallR X (.builtin "abs") rAbsQ := call_abs
theorem x_abs {H : Hp} {Q : VK} {i : Int} (q : Q (.int (if i < 0 then -i else i)) H) : rAbsQ [.int i] H Q := ⟨i, rfl, q⟩
def rMax2Q : List V → Hp → VK → Prop := fun xs H Q => ∃ i j, xs = [.int i, .int j] ∧ Q (.int (if j > i then j else i)) H
theorem c_max2 {X : Cx} (hc : X.calm = true) : CallR X (.builtin "max") rMax2Q := call_max2 hc
theorem x_max2 {H : Hp} {Q : VK} {i j : Int} (q : Q (.int (max i j)) H) : rMax2Q [.int i, .int j] H Q := ⟨i, j, rfl, by rw [show (if j > i then j else i) = max i j by split <;> omega]; exact q⟩
def rMin2Q : List V → Hp → VK → Prop := fun xs H Q => ∃ i j, xs = [.int i, .int j] ∧ Q (.int (if j < i then j else i)) H
theorem c_min2 {X : Cx} (hc : X.calm = true) : CallR X (.builtin "min") rMin2Q := call_min2 hc
theorem x_min2 {H : Hp} {Q : VK} {i j : Int} (q : Q (.int (min i j)) H) : rMin2Q [.int i, .int j] H Q := ⟨i, j, rfl, by rw [show (if j < i then j else i) = min i j by split <;> omega]; exact q⟩
/-- list(xs), tuple(xs) -/
def rLstQ (K : PySem.W.Frag) : List V → Hp → VK → Prop := fun xs H Q => ∃ p ys, xs = [.ref p] ∧ (SqL K H p ys ∨ SqT K H p ys) ∧ ∀ l, H l = none → Q (.ref l) (upd H l (.lst ys))
theorem c_list {X : Cx} : CallR X (.type "list") (rLstQ X.K) := call_list_of
theorem x_lstL {K : PySem.W.Frag} {H : Hp} {Q : VK} {p : Addr} {ys : List V} (h : SqL K H p ys) (q : ∀ l H1, H l = none → Kp F0 H H1 → H1 l = some (.lst ys) → Q (.ref l) H1) : rLstQ K [.ref p] H Q := ⟨p, ys, rfl, .inl h, fun l hl => q l _ hl (Kp.new hl) upd_same⟩
theorem x_lstT {K : PySem.W.Frag} {H : Hp} {Q : VK} {p : Addr} {ys : List V} (h : SqT K H p ys) (q : ∀ l H1, H l = none → Kp F0 H H1 → H1 l = some (.lst ys) → Q (.ref l) H1) : rLstQ K [.ref p] H Q := ⟨p, ys, rfl, .inr h, fun l hl => q l _ hl (Kp.new hl) upd_same⟩
def rTupQ (K : PySem.W.Frag) : List V → Hp → VK → Prop := fun xs H Q => ∃ p ys, xs = [.ref p] ∧ ((SqL K H p ys ∧ ∀ l, H l = none → Q (.ref l) (upd H l (.tup ys))) ∨ (SqT K H p ys ∧ Q (.ref p) H))
theorem c_tuple {X : Cx} : CallR X (.type "tuple") (rTupQ X.K) := call_tuple_of
theorem x_tupL {K : PySem.W.Frag} {H : Hp} {Q : VK} {p : Addr} {ys : List V} (h : SqL K H p ys) (q : ∀ l H1, H l = none → Kp F0 H H1 → H1 l = some (.tup ys) → Q (.ref l) H1) : rTupQ K [.ref p] H Q := ⟨p, ys, rfl, .inl ⟨h, fun l hl => q l _ hl (Kp.new hl) upd_same⟩⟩
theorem x_tupT {K : PySem.W.Frag} {H : Hp} {Q : VK} {p : Addr} {ys : List V} (h : SqT K H p ys) (q : Q (.ref p) H) : rTupQ K [.ref p] H Q := ⟨p, ys, rfl, .inr ⟨h, q⟩⟩
/-- isinstance of an int -/
theorem x_isi {K : PySem.W.Frag} {H : Hp} {Q : VK} {i : Int} {T : String} {b : Bool} (hk : PySem.W.kitOne K (.type "int") (.type T) = some b) (q : Q (.bl b) H) : rIsi K [.int i, .ty T] H Q := ⟨_, _, _, _, b, rfl, .ty T, .base (.int i), hk, q⟩
theorem x_isiI {K : PySem.W.Frag} {H : Hp} {Q : VK} {i : Int} (q : Q (.bl true) H) : rIsi K [.int i, .ty "int"] H Q := x_isi (kit_ty (by decide +kernel)) q
theorem x_isiB {K : PySem.W.Frag} {H : Hp} {Q : VK} {i : Int} (q : Q (.bl false) H) : rIsi K [.int i, .ty "bool"] H Q := x_isi (kit_ty (by decide +kernel)) q
/-- bytes of a slice: a new list -/
theorem x_sl {σ : L2.St} {H : Hp} {Q : VK} {te : TE} {tl th : TO} {r : V → Option Int → Option Int → Hp → VK → Prop} (h : te σ H fun x H1 => tl σ H1 fun l H2 => th σ H2 fun u H3 => r x l u H3 Q) : L2.tSl r te tl th σ H Q := h
theorem x_part {σ : L2.St} {H : Hp} {Q : Option Int → Hp → Prop} {te : TE} (h : te σ H fun x H1 => ∃ i, x = .int i ∧ Q (some i) H1) : tPart te σ H Q := h
theorem x_part1 {S : Int → Prop} {i : Int} (h : S i) : ∃ j, V.int i = .int j ∧ S j := ⟨i, rfl, h⟩
theorem x_nopart {σ : L2.St} {H : Hp} {Q : Option Int → Hp → Prop} (h : Q none H) : tNoPart σ H Q := h
theorem x_slL {K : PySem.W.Frag} {H : Hp} {Q : VK} {p : Addr} {xs : List V} {lo hi : Option Int} (h : SqL K H p xs) (q : ∀ l H1, H l = none → Kp F0 H H1 → H1 l = some (.lst (cutV xs lo hi)) → Q (.ref l) H1) : rSlL K (.ref p) lo hi H Q := ⟨p, xs, rfl, h, fun l hl => q l _ hl (Kp.new hl) upd_same⟩
theorem x_slT {K : PySem.W.Frag} {H : Hp} {Q : VK} {p : Addr} {xs : List V} {lo hi : Option Int} (h : SqT K H p xs) (q : ∀ l H1, Kp F0 H H1 → SqT K H1 l (cutV xs lo hi) → Q (.ref l) H1) : rSlA K (.ref p) lo hi H Q :=
  ⟨p, xs, rfl, h, fun e => q p H (Kp.refl _) (by rw [show cutV xs lo hi = xs by unfold cutV; rw [e.1, e.2]; simp]; exact h), fun _ l hl => q l _ (Kp.new hl) (SqT.of upd_same)⟩
theorem x_catT {K : PySem.W.Frag} {H : Hp} {Q : VK} {a b : Addr} {xs ys : List V} (ha : SqT K H a xs) (hb : SqT K H b ys) (hz : xs.length + ys.length ≤ 100000) (q : ∀ l H1, Kp F0 H H1 → SqT K H1 l (xs ++ ys) → Q (.ref l) H1) : rCatA K (.ref a) (.ref b) H Q :=
  ⟨a, b, xs, ys, rfl, rfl, ha, hb, Nat.le_trans hz (by decide), fun e => q b H (Kp.refl _) (by rw [e]; exact hb), fun _ e => q a H (Kp.refl _) (by rw [e, List.append_nil]; exact ha), fun _ _ l hl => q l _ (Kp.new hl) (SqT.of upd_same)⟩
theorem x_catL {H : Hp} {Q : VK} {a b : Addr} {xs ys : List V} (ha : H a = some (.lst xs)) (hb : H b = some (.lst ys)) (hz : xs.length + ys.length ≤ sizeLine) (q : ∀ l H1, H l = none → Kp F0 H H1 → H1 l = some (.lst (xs ++ ys)) → Q (.ref l) H1) : rCat (.ref a) (.ref b) H Q :=
  ⟨a, b, xs, ys, rfl, rfl, ha, hb, hz, fun l hl => q l _ hl (Kp.new hl) upd_same⟩
/-- data compared -/
theorem x_eqD {K : PySem.W.Frag} {H : Hp} {Q : VK} {x y : V} {d e : PyData} (hx : Dp K H x d) (hy : Dp K H y e) (s1 : SeqAt.shaped d = true) (s2 : SeqAt.shaped e = true) (q : Q (.bl (PyData.eqv d e)) H) : rEqD K x y H Q := ⟨d, e, hx, hy, s1, s2, q⟩
theorem x_neD {K : PySem.W.Frag} {H : Hp} {Q : VK} {x y : V} {d e : PyData} (hx : Dp K H x d) (hy : Dp K H y e) (s1 : SeqAt.shaped d = true) (s2 : SeqAt.shaped e = true) (q : Q (.bl (!PyData.eqv d e)) H) : rNeD K x y H Q := ⟨d, e, hx, hy, s1, s2, q⟩

/-! ### data of ints and texts: equal as data, equal -/
mutual
def nb : PyData → Bool
  | .none => true
  | .bool _ => false
  | .int _ => true
  | .str _ => true
  | .list xs => nbAll xs
  | .tuple xs => nbAll xs
  | .dict _ => false
def nbAll : List PyData → Bool
  | [] => true
  | x :: xs => nb x && nbAll xs
end
mutual
theorem eqv_nb : ∀ d e : PyData, nb d = true → nb e = true → (PyData.eqv d e = true ↔ d = e)
  | .none, e, _, h => by cases e <;> first | (simp [nb] at h; done) | simp [PyData.eqv]
  | .int i, e, _, h => by cases e <;> first | (simp [nb] at h; done) | simp [PyData.eqv]
  | .str i, e, _, h => by cases e <;> first | (simp [nb] at h; done) | simp [PyData.eqv]
  | .list xs, e, g, h => by
    cases e with
    | list ys => rw [show PyData.eqv (.list xs) (.list ys) = PyData.eqvAll xs ys by simp [PyData.eqv], eqvAll_nb xs ys (by simpa [nb] using g) (by simpa [nb] using h)]; simp
    | bool b => simp [nb] at h
    | dict b => simp [nb] at h
    | _ => simp [PyData.eqv]
  | .tuple xs, e, g, h => by
    cases e with
    | tuple ys => rw [show PyData.eqv (.tuple xs) (.tuple ys) = PyData.eqvAll xs ys by simp [PyData.eqv], eqvAll_nb xs ys (by simpa [nb] using g) (by simpa [nb] using h)]; simp
    | bool b => simp [nb] at h
    | dict b => simp [nb] at h
    | _ => simp [PyData.eqv]
  | .bool _, _, g, _ => by simp [nb] at g
  | .dict _, _, g, _ => by simp [nb] at g
theorem eqvAll_nb : ∀ xs ys : List PyData, nbAll xs = true → nbAll ys = true → (PyData.eqvAll xs ys = true ↔ xs = ys)
  | [], [], _, _ => by simp [PyData.eqvAll]
  | [], _ :: _, _, _ => by simp [PyData.eqvAll]
  | _ :: _, [], _, _ => by simp [PyData.eqvAll]
  | x :: xs, y :: ys, g, h => by
    simp only [nbAll, Bool.and_eq_true] at g h
    simp only [PyData.eqvAll, Bool.and_eq_true, List.cons.injEq]
    rw [eqv_nb x y g.1 h.1, eqvAll_nb xs ys g.2 h.2]
end
theorem eqv_dec {d e : PyData} (h1 : nb d = true) (h2 : nb e = true) {p : Prop} [Decidable p] (h : d = e ↔ p) : PyData.eqv d e = decide p := by
  rw [Bool.eq_iff_iff, eqv_nb d e h1 h2, h, decide_eq_true_iff]
/-- data whose rows are shaped -/
def Sh (n : Nat) (d : PyData) : Prop := d.canLay0 = true ∧ d.depth ≤ n ∧ nb d = true
theorem Sh.shaped {n : Nat} {d : PyData} (h : Sh n d) (hn : n ≤ 64 := by decide) : SeqAt.shaped d = true := by
  unfold SeqAt.shaped
  rw [h.1, decide_eq_true (Nat.le_trans h.2.1 hn)]; rfl
theorem Sh.int (i : Int) : Sh 0 (.int i) := ⟨by simp [PyData.canLay0], by simp [PyData.depth], by simp [nb]⟩
theorem sh_all {n : Nat} : ∀ {ds : List PyData}, (∀ d ∈ ds, Sh n d) → PyData.canLayAll0 ds = true ∧ PyData.depthAll ds ≤ n ∧ nbAll ds = true
  | [], _ => ⟨by simp [PyData.canLayAll0], by simp [PyData.depthAll], by simp [nbAll]⟩
  | d :: ds, h => by
    have h1 := h d (by simp)
    have h2 := sh_all (ds := ds) fun x hx => h x (List.mem_cons_of_mem _ hx)
    exact ⟨by simp [PyData.canLayAll0, h1.1, h2.1], by simp only [PyData.depthAll]; have := h1.2.1; have := h2.2.1; omega, by simp [nbAll, h1.2.2, h2.2.2]⟩
theorem Sh.list {n : Nat} {ds : List PyData} (h : ∀ d ∈ ds, Sh n d) : Sh (n + 1) (.list ds) := by
  have q := sh_all h
  exact ⟨by simp [PyData.canLay0, q.1], by simp only [PyData.depth]; have := q.2.1; omega, by simp [nb, q.2.2]⟩
theorem Sh.tuple {n : Nat} {ds : List PyData} (h : ∀ d ∈ ds, Sh n d) : Sh (n + 1) (.tuple ds) := by
  have q := sh_all h
  exact ⟨by simp [PyData.canLay0, q.1], by simp only [PyData.depth]; have := q.2.1; omega, by simp [nb, q.2.2]⟩
theorem sh_ints (ns : List Int) : ∀ d ∈ ns.map PyData.int, Sh 0 d := fun d h => by
  obtain ⟨i, _, rfl⟩ := List.mem_map.mp h
  exact Sh.int i
theorem map_int_inj : ∀ {ns ms : List Int}, ns.map PyData.int = ms.map PyData.int ↔ ns = ms
  | [], [] => by simp
  | [], _ :: _ => by simp
  | _ :: _, [] => by simp
  | n :: ns, m :: ms => by simp [map_int_inj (ns := ns) (ms := ms)]
theorem dp_ints {K : PySem.W.Frag} {H : Hp} : ∀ ns : List Int, DpAll K H (ns.map V.int) (ns.map PyData.int)
  | [] => .nil
  | n :: ns => .cons (.int n) (dp_ints ns)
theorem x_eqLI {K : PySem.W.Frag} {H : Hp} {Q : VK} {a b : Addr} {ns ms : List Int} (ha : SqL K H a (ns.map V.int)) (hb : SqL K H b (ms.map V.int)) (q : Q (.bl (decide (ns = ms))) H) : rEqD K (.ref a) (.ref b) H Q :=
  x_eqD (.lst ha (dp_ints _)) (.lst hb (dp_ints _)) (Sh.list (sh_ints _)).shaped (Sh.list (sh_ints _)).shaped (by rw [eqv_dec (p := ns = ms) (Sh.list (sh_ints _)).2.2 (Sh.list (sh_ints _)).2.2 (by simp [map_int_inj])]; exact q)
theorem x_neLI {K : PySem.W.Frag} {H : Hp} {Q : VK} {a b : Addr} {ns ms : List Int} (ha : SqL K H a (ns.map V.int)) (hb : SqL K H b (ms.map V.int)) (q : Q (.bl (!decide (ns = ms))) H) : rNeD K (.ref a) (.ref b) H Q :=
  x_neD (.lst ha (dp_ints _)) (.lst hb (dp_ints _)) (Sh.list (sh_ints _)).shaped (Sh.list (sh_ints _)).shaped (by rw [eqv_dec (p := ns = ms) (Sh.list (sh_ints _)).2.2 (Sh.list (sh_ints _)).2.2 (by simp [map_int_inj])]; exact q)
theorem x_eqTI {K : PySem.W.Frag} {H : Hp} {Q : VK} {a b : Addr} {ns ms : List Int} (ha : SqT K H a (ns.map V.int)) (hb : SqT K H b (ms.map V.int)) (q : Q (.bl (decide (ns = ms))) H) : rEqD K (.ref a) (.ref b) H Q :=
  x_eqD (.tup ha (dp_ints _)) (.tup hb (dp_ints _)) (Sh.tuple (sh_ints _)).shaped (Sh.tuple (sh_ints _)).shaped (by rw [eqv_dec (p := ns = ms) (Sh.tuple (sh_ints _)).2.2 (Sh.tuple (sh_ints _)).2.2 (by simp [map_int_inj])]; exact q)
theorem x_neTI {K : PySem.W.Frag} {H : Hp} {Q : VK} {a b : Addr} {ns ms : List Int} (ha : SqT K H a (ns.map V.int)) (hb : SqT K H b (ms.map V.int)) (q : Q (.bl (!decide (ns = ms))) H) : rNeD K (.ref a) (.ref b) H Q :=
  x_neD (.tup ha (dp_ints _)) (.tup hb (dp_ints _)) (Sh.tuple (sh_ints _)).shaped (Sh.tuple (sh_ints _)).shaped (by rw [eqv_dec (p := ns = ms) (Sh.tuple (sh_ints _)).2.2 (Sh.tuple (sh_ints _)).2.2 (by simp [map_int_inj])]; exact q)

/-! ### rules with the written part named -/
section
variable {X : Cx} {K : PySem.W.Frag} {e o : Expr} {es : List Expr} {ta to te : TE} {f name : Str} {pos apos cpos : Pos} {t : TA} {T id : String} {r : V → List V → Hp → VK → Prop} {tg l : Expr} {gs : TGs}
theorem pe_fldK (hK : X.K = K) (he : PE X e ta) (hb : attributeBase e f X.env (eval e X.env) = eval e X.env := by rfl) : PE X (.Attribute e f pos) (tFld K ta f) := by subst hK; exact pe_fld he hb
theorem pe_kBM (hK : X.K = K) (h : PE X e (tBM X.K T r to t)) : PE X e (tBM K T r to t) := by subst hK; exact h
theorem pe_kBM0 (hK : X.K = K) (h : PE X e (tBM0 X.K T r to)) : PE X e (tBM0 K T r to) := by subst hK; exact h
theorem pg_kT {k : Nat} (hK : X.K = K) (h : PG X tg (gTup X.K k gs)) : PG X tg (gTup K k gs) := by subst hK; exact h
theorem pi_listK (hK : X.K = K) (h : PE X l te) : PI X tg l (iList K te) := by subst hK; exact pi_list h
theorem pi_tupK (hK : X.K = K) (h : PE X l te) : PI X tg l (iTup K te) := by subst hK; exact pi_tup h
end

/-- what every law promises: True -/
def sp_law (K : PySem.W.Frag) : Sp := fun vs H Q _ => ∃ (a : Addr) (ns : List Int), vs = [.ref a] ∧ Sc K H a ns ∧ ns.length ≤ 63 ∧ ∀ H', Q (.bl true) H'
theorem tup_K {K : PySem.W.Frag} {H : Hp} {a : Addr} {dd : Option Addr} {us : List Value} {n : Nat} {sl : Array (Option Value)} {xs : List V} (h : K.lookup a = some ⟨.type "tuple", dd, .seq us.toArray n, sl⟩) (r : Vals xs us) (z : us.length ≤ 1000 := by exact Nat.le_of_ble_eq_true rfl) : SqT K H a xs :=
  .inr ⟨_, us.toArray, n, h, rfl, rfl, Nat.le_trans (by simpa using z) (by decide : 1000 ≤ sizeLine), r⟩

/-! ### methods of lists, targets -/
section
variable {K : PySem.W.Frag} {σ : L2.St} {H : Hp} {Q : VK} {to te : TE} {ts : TA} {T : String} {r : V → List V → Hp → VK → Prop} {l b p a : Addr} {xs zs : List V} {y v : V}
theorem x_bm (h : to σ H fun x H1 => tyV K T x H1 ∧ ts σ H1 fun xs H2 => r x xs H2 Q) : tBM K T r to ts σ H Q := h
theorem x_bm0 (h : to σ H fun x H1 => tyV K T x H1 ∧ r x [] H1 Q) : tBM0 K T r to σ H Q := h
theorem x_ty {B : Prop} (h : H p = some (.lst xs)) (q : B) : tyV K "list" (.ref p) H ∧ B := ⟨.inl ⟨rfl, _, SqL.of h⟩, q⟩
theorem x_app (h : H l = some (.lst xs)) (hz : xs.length < 16777216) (q : ∀ H1, H1 l = some (.lst (xs ++ [y])) → Kp (F1 l) H H1 → Q .non H1) : rAppend (.ref l) [y] H Q :=
  ⟨l, xs, y, rfl, rfl, h, Nat.lt_of_lt_of_le hz (by decide), q _ upd_same (Kp.put h id)⟩
theorem x_ext (h : H l = some (.lst xs)) (hb : H b = some (.lst zs)) (hz : xs.length + zs.length ≤ 16777216) (q : ∀ H1, H1 l = some (.lst (xs ++ zs)) → Kp (F1 l) H H1 → Q .non H1) : rExtend (.ref l) [.ref b] H Q :=
  ⟨l, b, xs, zs, rfl, rfl, h, hb, Nat.le_trans hz (by decide), q _ upd_same (Kp.put h id)⟩
theorem x_all {bs : List Bool} (h : SqL K H a (bs.map V.bl)) (q : Q (.bl (bs.all id)) H) : rAll K [.ref a] H Q := ⟨a, bs, rfl, h, q⟩
theorem x_any {bs : List Bool} (h : SqL K H a (bs.map V.bl)) (q : Q (.bl (bs.any id)) H) : rAny K [.ref a] H Q := ⟨a, bs, rfl, h, q⟩
theorem x_gt {n : Nat} {g : TGs} {R : L2.St → Hp → Prop} (h : SqT K H a xs) (hn : xs.length = n) (q : g xs σ H R) : gTup K n g (.ref a) σ H R := ⟨a, xs, rfl, h, hn, q⟩
theorem x_gc {t : TG} {u : TGs} {R : L2.St → Hp → Prop} (q : t v σ H fun σ' H' => u xs σ' H' R) : gCons t u (v :: xs) σ H R := ⟨v, xs, rfl, q⟩
theorem x_g0 {R : L2.St → Hp → Prop} (q : R σ H) : gNil [] σ H R := ⟨rfl, q⟩
theorem x_isiT {S : String} {b : Bool} (h : SqT K H a xs) (ht : TyX K H (.ref a) (.type "tuple")) (hk : PySem.W.kitOne K (.type "tuple") (.type S) = some b) (q : Q (.bl b) H) : rIsi K [.ref a, .ty S] H Q := ⟨_, _, _, _, b, rfl, .ty S, ht, hk, q⟩
end
/-- n & (2 ^ k - 1) -/
def rAndM : R2 := fun x y H Q => ∃ (i : Int) (k : Nat), x = .int i ∧ y = .int (2 ^ k - 1) ∧ Q (.int (i % 2 ^ k)) H
theorem o_and {X : Cx} : OpR X (binaryOp .BitAnd) rAndM := op_andM
theorem x_and255 {H : Hp} {Q : VK} {i : Int} (q : Q (.int (i % 256)) H) : rAndM (.int i) (.int 255) H Q := ⟨i, 8, rfl, rfl, q⟩
/-! ### slices -/
theorem cut_to {a : List Int} {j : Int} (h0 : 0 ≤ j) (h1 : j ≤ a.length) : cutV (a.map V.int) none (some j) = (a.take j.toNat).map V.int := by
  obtain ⟨k, rfl⟩ := Int.eq_ofNat_of_zero_le h0
  unfold cutV
  rw [HT.sIx_none, HT.sIx_nat]
  simp only [List.drop_zero, Nat.sub_zero, List.length_map, List.map_take, Int.toNat_natCast]
  congr 1
  omega
theorem cut_from {a : List Int} {j : Int} (h0 : 0 ≤ j) (h1 : j ≤ a.length) : cutV (a.map V.int) (some j) none = (a.drop j.toNat).map V.int := by
  obtain ⟨k, rfl⟩ := Int.eq_ofNat_of_zero_le h0
  unfold cutV
  rw [HT.sIx_none, HT.sIx_nat]
  simp only [List.length_map, List.map_drop, Int.toNat_natCast]
  rw [show min k a.length = k by omega, List.take_of_length_le (by simp)]
theorem cut_mid {a : List Int} {i j : Int} (h0 : 0 ≤ i) (h1 : i ≤ j) : cutV (a.map V.int) (some i) (some j) = ((a.drop i.toNat).take (j - i).toNat).map V.int := by
  obtain ⟨m, rfl⟩ := Int.eq_ofNat_of_zero_le h0
  obtain ⟨n, rfl⟩ := Int.eq_ofNat_of_zero_le (Int.le_trans h0 h1)
  unfold cutV
  rw [HT.sIx_nat, HT.sIx_nat]
  simp only [List.length_map, List.map_take, List.map_drop, Int.toNat_natCast]
  have e : ((n : Int) - (m : Int)).toNat = n - m := by omega
  rw [e]
  by_cases q : m ≤ a.length
  · rw [show min m a.length = m by omega]
    by_cases q2 : n ≤ a.length
    · rw [show min n a.length = n by omega]
    · rw [show min n a.length = a.length by omega, List.take_of_length_le (by simp), List.take_of_length_le (by simp; omega)]
  · rw [List.drop_eq_nil_of_le (by simp; omega), List.drop_eq_nil_of_le (by simp; omega)]; simp

/-! ### exceptions of own classes, made without arguments -/
section
variable {X : Cx} {C : Addr} {bmB : List Value} {B newId initId : String} {x : Str} {p pos : Pos}
theorem pmk_own0 (F : ExcBaseFacts B newId initId bmB) (q : PySem.W.excIn X.K C bmB newId = true) (gC : X.mg x = some (.ref C)) (kC : PySem.W.keepIn X.K (.ref C) = true) (r : Raises X (.ref C)) (hg : Gl X x)
    (hdb : (x == ("__debug__" : Str)) = false := by decide) : PMk X (.Call (.Name x p) [] [] pos) (fun _ H Q => Q (.ref C) none H) := fun pins s σ H Q I h => by
  refine wpAny_Call_Name_kw (ld_glob I hg gC (PySem.W.callWith_K0 I.kIn kC ?_) hdb)
  obtain ⟨_, _, _, _, _, _, _, _, _, _, _, _, _, _, _, _, _, hC, hN, hi, T⟩ := exc_obj I.kIn q
  exact wpAny_call_exc_subT F T hC hN hi (fun _ _ hm => mk_of I hm r h (I.hok.gone hm.new)) (Nat.zero_le _)
end
/-- what the top tells of an own exception class -/
structure ExT (K : PySem.W.Frag) (mg : Str → Option Value) (x : Str) (C : Addr) : Prop where
  g : mg x = some (.ref C)
  x : PySem.W.excIn K C [.type "ValueError", .type "Exception", .type "BaseException", .type "object"] "ValueError.__new__" = true
  k : PySem.W.keepIn K (.ref C) = true
  b : PySem.W.subIn K (.ref C) (.type "BaseException") = some true
  t : PySem.W.typeIn K (.ref C) = some (.type "type")
  i : PySem.W.isClsIn K C = true
  s : PySem.W.subIn K (.ref C) (.ref C) = some true
section
variable {X : Cx} {C : Addr} {x : Str} {p pos : Pos}
theorem pmk_X (T : ExT X.K X.mg x C) (hg : Gl X x := by rfl) (hdb : (x == ("__debug__" : Str)) = false := by decide) : PMk X (.Call (.Name x p) [] [] pos) (fun _ H Q => Q (.ref C) none H) :=
  pmk_own0 PySem.F.excBase_ValueError T.x T.g T.k (raises_own T.b T.t) hg hdb
/-- what an own raising def lets out goes to its own wish -/
theorem passE {E : XK} {E1 : Value → Shared → Prop} (hs : X.stack = X.env :: X.outer) (hf : X.env.frame = some X.env.locals) (hex : X.ex = [])
    (hx : X.xe = fun e s' => wpAny (model X.prog X.w) X.A (leaving X.env e) (fun _ s'' => L2.CX X.prog X.w X.outer X.H_0 X.s_0 E e s'') E1 s') : ∀ σ, PassesAt (L2.CX X.prog X.w) X σ ((fun _ => E) σ) :=
  fun σ pins H s e s' I c => passes_call (takes_of hs hf hex hx) (fun _ _ _ _ z => z) pins σ H s e s' I c
end

/-! ### fields, methods, dicts: their steps -/
section
variable {K : PySem.W.Frag} {σ : L2.St} {H : Hp} {Q : VK} {D : Ends} {ta tv td ty tx te : TE} {t u : TS} {x y z v : V} {f m : Str} {p a C dx : Addr} {fs fs' : List (Str × V)} {ts : TA} {sp : Sp} {E : L2.St → XK}
def rFldQ (K : PySem.W.Frag) (f : Str) (x : V) (H : Hp) (Q : VK) : Prop := ∃ a C dx fs v, x = .ref a ∧ H a = some (.ins C dx fs) ∧ Cls K C ∧ NoAttr K C f ∧ fs.lookup f = some v ∧ Q v H
theorem x_tfld (h : ta σ H fun x H1 => rFldQ K f x H1 Q) : tFld K ta f σ H Q := h
theorem x_fld (h : H p = some (.ins C dx fs)) (cl : Cls K C) (na : NoAttr K C f) (l : fs.lookup f = some v) (q : Q v H) : rFldQ K f (.ref p) H Q := ⟨p, C, dx, fs, v, rfl, h, cl, na, l, q⟩
def rSFld (K : PySem.W.Frag) (f : Str) (x y : V) (H : Hp) (R : Hp → Prop) : Prop := ∃ a C dx fs, x = .ref a ∧ H a = some (.ins C dx fs) ∧ Cls K C ∧ NoAttr K C f ∧ fs.length < 1000 ∧ R (upd H a (.ins C dx (putF f y fs)))
theorem x_tsf (h : tv σ H fun y H1 => ta σ H1 fun x H2 => rSFld K f x y H2 (D.nx σ)) : sFld K ta tv f D σ H := h
theorem x_sfl {R : Hp → Prop} (h : H p = some (.ins C dx fs)) (cl : Cls K C) (na : NoAttr K C f) (ln : fs.length < 1000) (e : putF f y fs = fs') (q : ∀ H1, H1 p = some (.ins C dx fs') → Kp (F1 p) H H1 → R H1) : rSFld K f (.ref p) y H R :=
  ⟨p, C, dx, fs, rfl, h, cl, na, ln, q _ (by rw [e]; exact upd_same) (Kp.put h id)⟩
def rAugQ (K : PySem.W.Frag) (f : Str) (x : V) (H : Hp) (R : Addr → Addr → V → Prop) : Prop := ∃ a C dx fs v, x = .ref a ∧ H a = some (.ins C dx fs) ∧ Cls K C ∧ NoAttr K C f ∧ fs.lookup f = some v ∧ R a C v
def rAugP (f : Str) (a C : Addr) (z : V) (H : Hp) (R : Hp → Prop) : Prop := ∃ dx' fs', H a = some (.ins C dx' fs') ∧ fs'.length < 1000 ∧ R (upd H a (.ins C dx' (putF f z fs')))
theorem x_aug {rd : V → V → Hp → VK → Prop} (h : ta σ H fun x H1 => rAugQ K f x H1 fun a C v => tv σ H1 fun y H2 => rd v y H2 fun z H3 => rAugP f a C z H3 (D.nx σ)) : sFldAug K ta tv rd f D σ H := by
  exact h
theorem x_augI {R : Addr → Addr → V → Prop} (h : H p = some (.ins C dx fs)) (cl : Cls K C) (na : NoAttr K C f) (l : fs.lookup f = some v) (q : R p C v) : rAugQ K f (.ref p) H R := ⟨p, C, dx, fs, v, rfl, h, cl, na, l, q⟩
theorem x_augP {R : Hp → Prop} (h : H p = some (.ins C dx fs)) (ln : fs.length < 1000) (e : putF f y fs = fs') (q : ∀ H1, H1 p = some (.ins C dx fs') → Kp (F1 p) H H1 → R H1) : rAugP f p C y H R :=
  ⟨dx, fs, h, ln, q _ (by rw [e]; exact upd_same) (Kp.put h id)⟩
theorem x_radd {i j : Int} (q : Q (.int (i + j)) H) : rAdd (.int i) (.int j) H Q := ⟨i, j, rfl, rfl, q⟩
theorem x_rsub {i j : Int} (q : Q (.int (i - j)) H) : rSub (.int i) (.int j) H Q := ⟨i, j, rfl, rfl, q⟩
def rMethQ (C : Addr) (m : Str) (x : V) (H : Hp) (R : Addr → Prop) : Prop := ∃ a dx fs, x = .ref a ∧ H a = some (.ins C dx fs) ∧ fs.lookup m = none ∧ R a
theorem x_tmt (h : ta σ H fun x H1 => rMethQ C m x H1 fun a => ts σ H1 fun vs H2 => sp (.ref a :: vs) H2 Q (E σ)) : tMethS C m sp E ta ts σ H Q := h
theorem x_mt {R : Addr → Prop} (h : H p = some (.ins C dx fs)) (l : fs.lookup m = none) (q : R p) : rMethQ C m (.ref p) H R := ⟨p, dx, fs, rfl, h, l, q⟩
theorem x_mk (h : ts σ H fun vs H1 => ∀ x dx, H1 x = none → H1 dx = none → dx ≠ x → sp (.ref x :: vs) (upd (upd H1 dx (.own x)) x (.ins C dx [])) (fun v H2 => v = .non ∧ Q (.ref x) H2) (E σ)) : tMakeS C sp E ts σ H Q := h
/-- d[k], k in d, d.get(k, z), d[k] = v, d.pop(k) -/
def rDGet (x y : V) (H : Hp) (Q : VK) : Prop := ∃ a v, x = .ref a ∧ DGet H a y (some v) ∧ Q v H
theorem x_tdg (h : td σ H fun x H1 => ty σ H1 fun y H2 => rDGet x y H2 Q) : tDGet td ty σ H Q := h
theorem x_dgI {kvs : List (Key × V)} {n : Int} (h : Rd H a (.dK kvs)) (e : valV kvs (Sum.inl n) = some v) (q : Q v H) : rDGet (.ref a) (.int n) H Q := ⟨a, v, rfl, .inl ⟨kvs, .inl n, h, rfl, e.symm⟩, q⟩
theorem x_dgS {kvs : List (Key × V)} {n : Str} (h : Rd H a (.dK kvs)) (e : valV kvs (Sum.inr n) = some v) (q : Q v H) : rDGet (.ref a) (.str n) H Q := ⟨a, v, rfl, .inl ⟨kvs, .inr n, h, rfl, e.symm⟩, q⟩
def rDIn (x y : V) (H : Hp) (Q : VK) : Prop := ∃ a o, x = .ref a ∧ DGet H a y o ∧ Q (.bl o.isSome) H
theorem x_tdi (h : ty σ H fun y H1 => td σ H1 fun x H2 => rDIn x y H2 Q) : tDIn ty td σ H Q := h
theorem x_diI {kvs : List (Key × V)} {n : Int} (h : Rd H a (.dK kvs)) (q : Q (.bl (valV kvs (Sum.inl n)).isSome) H) : rDIn (.ref a) (.int n) H Q := ⟨a, _, rfl, .inl ⟨kvs, .inl n, h, rfl, rfl⟩, q⟩
def rDNin (x y : V) (H : Hp) (Q : VK) : Prop := ∃ a o, x = .ref a ∧ DGet H a y o ∧ Q (.bl (!o.isSome)) H
theorem x_tdn (h : ty σ H fun y H1 => td σ H1 fun x H2 => rDNin x y H2 Q) : tDNotIn ty td σ H Q := h
theorem x_dnI {kvs : List (Key × V)} {n : Int} (h : Rd H a (.dK kvs)) (q : Q (.bl (!(valV kvs (Sum.inl n)).isSome)) H) : rDNin (.ref a) (.int n) H Q := ⟨a, _, rfl, .inl ⟨kvs, .inl n, h, rfl, rfl⟩, q⟩
def rDGet2 (x : V) (H : Hp) (R : Addr → Prop) : Prop := ∃ a, x = .ref a ∧ IsD H a ∧ R a
def rDGet2b (a : Addr) (y z : V) (H : Hp) (Q : VK) : Prop := ∃ o, DGet H a y o ∧ Q (o.getD z) H
theorem x_tg2 (h : td σ H fun x H1 => rDGet2 x H1 fun a => ty σ H1 fun y H2 => tx σ H2 fun z H3 => rDGet2b a y z H3 Q) : tDGet2 td ty tx σ H Q := h
theorem x_g2a {kvs : List (Key × V)} {R : Addr → Prop} (h : Rd H a (.dK kvs)) (q : R a) : rDGet2 (.ref a) H R := ⟨a, rfl, .inl ⟨kvs, h⟩, q⟩
theorem x_g2b {kvs : List (Key × V)} {n : Int} (h : Rd H a (.dK kvs)) (q : Q ((valV kvs (Sum.inl n)).getD z) H) : rDGet2b a (.int n) z H Q := ⟨_, .inl ⟨kvs, .inl n, h, rfl, rfl⟩, q⟩
def rDPut (x y v : V) (H : Hp) (R : Hp → Prop) : Prop := ∃ a H4, x = .ref a ∧ DPut H a y v H4 ∧ R H4
theorem x_tdp (h : tv σ H fun v H1 => td σ H1 fun x H2 => ty σ H2 fun y H3 => rDPut x y v H3 (D.nx σ)) : sDPut td ty tv D σ H := h
theorem x_dpI {kvs : List (Key × V)} {n : Int} {R : Hp → Prop} (h : H a = some (.dK kvs)) (z : kvs.length < 16777216) (q : ∀ H1, H1 a = some (.dK (putK kvs (Sum.inl n) v)) → Kp (F1 a) H H1 → R H1) : rDPut (.ref a) (.int n) v H R :=
  ⟨a, _, rfl, .inl ⟨kvs, .inl n, h, rfl, Nat.lt_of_lt_of_le z (by decide), rfl⟩, q _ upd_same (Kp.put h id)⟩
theorem x_dpS {kvs kvs' : List (Key × V)} {n : Str} {R : Hp → Prop} (h : H a = some (.dK kvs)) (e : putK kvs (Sum.inr n) v = kvs') (z : kvs.length < 16777216) (q : ∀ H1, H1 a = some (.dK kvs') → Kp (F1 a) H H1 → R H1) : rDPut (.ref a) (.str n) v H R :=
  ⟨a, _, rfl, .inl ⟨kvs, .inr n, h, rfl, Nat.lt_of_lt_of_le z (by decide), rfl⟩, q _ (by rw [e]; exact upd_same) (Kp.put h id)⟩
theorem x_dnew (h : ∀ p H1, H p = none → Kp F0 H H1 → H1 p = some (.dK []) → Q (.ref p) H1) : tDNewK σ H Q := fun p hp => h p _ hp (Kp.new hp) upd_same
theorem x_lenD {kvs : List (Key × V)} (h : H a = some (.dK kvs)) (q : Q (.int kvs.length) H) : (fun (xs : List V) (H : Hp) (Q : VK) => ∃ a kvs, xs = [V.ref a] ∧ H a = some (.dK kvs) ∧ Q (.int kvs.length) H) [.ref a] H Q := ⟨a, kvs, rfl, h, q⟩
/-- x is None -/
def rIsNQ : R2 := fun x y H Q => y = .non ∧ Q (.bl (decide (x = .non))) H
theorem o_isN {X : Cx} : OpR X (compareOp .Is) rIsNQ := op_isN
theorem x_isNi {i : Int} (q : Q (.bl false) H) : rIsNQ (.int i) .non H Q := ⟨rfl, q⟩
theorem x_isNr (q : Q (.bl false) H) : rIsNQ (.ref a) .non H Q := ⟨rfl, q⟩
theorem x_isNn (q : Q (.bl true) H) : rIsNQ .non .non H Q := ⟨rfl, q⟩
def rNotNQ : R2 := fun x y H Q => y = .non ∧ Q (.bl (!decide (x = .non))) H
theorem o_notN {X : Cx} : OpR X (compareOp .IsNot) rNotNQ := op_notN
theorem x_notNi {i : Int} (q : Q (.bl true) H) : rNotNQ (.int i) .non H Q := ⟨rfl, q⟩
theorem x_notNr (q : Q (.bl true) H) : rNotNQ (.ref a) .non H Q := ⟨rfl, q⟩
theorem x_notNn (q : Q (.bl false) H) : rNotNQ .non .non H Q := ⟨rfl, q⟩
end
/-- a repeated list -/
theorem x_rep {H : Hp} {Q : VK} {l : Addr} {k : Int} {v : V} (h : H l = some (.lst [v])) (h0 : 0 ≤ k) (h1 : k ≤ 1000000) (q : ∀ p H1, H p = none → Kp F0 H H1 → H1 p = some (.lst (List.replicate k.toNat v)) → Q (.ref p) H1) : rRep (.ref l) (.int k) H Q :=
  ⟨l, k, [v], rfl, rfl, h, by omega, by omega, by rw [sizeLine_eq]; simp only [List.length_singleton]; omega, fun p hp => q p _ hp (Kp.new hp) (by rw [upd_same]; congr 2; generalize k.toNat = n; induction n with | zero => rfl | succ n ih => rw [List.replicate_succ, List.flatten_cons, ih, List.replicate_succ]; rfl)⟩
/-- reversed(xs) -/
theorem Wk.rev {K : PySem.W.Frag} {a : Addr} {xs : List V} : Wk (Itv K a xs.length) (fun H => SqL K H a xs) xs.reverse where
  go := fun i H h g => by
    rw [List.length_reverse] at h
    exact ⟨h, xs, xs[xs.length - 1 - i], g, by rw [List.getElem?_eq_getElem (by omega)]⟩
  yld := fun i H x H' h g y => by
    rw [List.length_reverse] at h
    refine ⟨y.1.symm, ?_⟩
    rw [List.getElem?_reverse h]
    exact y.2 xs g
  stop := fun H _ => by show xs.length ≤ _; rw [List.length_reverse]; exact Nat.le_refl _
section
variable {K : PySem.W.Frag} {σ : L2.St} {H : Hp} {ts : TA} {R : It → Hp → Prop} {a : Addr}
def rRevQ (K : PySem.W.Frag) (vs : List V) (H : Hp) (R : It → Hp → Prop) : Prop := ∃ (a : Addr) (xs : List V), vs = [.ref a] ∧ SqL K H a xs ∧ R (Itv K a xs.length) H
theorem x_irev (h : ts σ H fun vs H1 => rRevQ K vs H1 R) : iRev K ts σ H R := h
theorem x_rev {xs : List V} (h : SqL K H a xs) (q : R (Itv K a xs.length) H) : rRevQ K [.ref a] H R := ⟨a, xs, rfl, h, q⟩
end
theorem pi_revK {X : Cx} {K : PySem.W.Frag} {tg e : Expr} {ta : TA} (hK : X.K = K) (h : PI X tg e (iRev X.K ta)) : PI X tg e (iRev K ta) := by subst hK; exact h
/-- a footprint and what a step makes of it -/
structure Stp (G G' : Addr → Prop) (H H' : Hp) : Prop where
  kp : Kp G H H'
  gr : ∀ b, G' b → G b ∨ H b = none
theorem Stp.refl (G : Addr → Prop) (H : Hp) : Stp G G H H := ⟨Kp.refl H, fun b h => .inl h⟩
theorem Stp.trans {G G1 G2 : Addr → Prop} {H H1 H2 : Hp} (s : Stp G G1 H H1) (t : Stp G1 G2 H1 H2) : Stp G G2 H H2 := by
  refine ⟨s.kp.trans t.kp s.gr, fun b g => ?_⟩
  rcases t.gr b g with h | h
  · exact s.gr b h
  · by_cases q : G b
    · exact .inl q
    · cases e : H b with
      | none => exact .inr rfl
      | some o => rw [s.kp.get e q] at h; cases h
theorem Stp.pure {G : Addr → Prop} {H H' : Hp} (k : Kp F0 H H') : Stp G G H H' := ⟨k.mono fun _ z => z.elim, fun b h => .inl h⟩
theorem Stp.kp0 {G G' : Addr → Prop} {H H' : Hp} {b : Addr} {o : HO} (s : Stp G G' H H') (h : H b = some o) (n : ¬ G b) : ¬ G' b := fun z => by
  rcases s.gr b z with q | q
  · exact n q
  · rw [h] at q; cases q

/-- isinstance(e, c) in the suite that caught e, the class as the reading tells it -/
theorem c_isE {X : Cx} {a D : Addr} {cls : Value} {d : Option Addr} {oe : Obj} {pn : List (Addr × Obj)} (C : ExcC X.K D) (hz : Zc cls d oe) (hf : ∃ vs, oe.data = .fields vs) :
    CallR (X.suite a ((a, oe) :: pn)) (.builtin "isinstance") (fun xs H Q => cls = .ref D ∧ d = none ∧ rIsE X.K D a xs H Q) := fun pins s σ H xs us Q I r h => by
  obtain ⟨rfl, rfl, h⟩ := h
  exact call_isE C hz hf pins s σ H xs us Q I r h
theorem at_of_lt {a : List Int} {i : Nat} (h : i < a.length) : (a.map V.int)[i]? = some (.int (a.getD i 0)) := by
  rw [List.getElem?_map, List.getD_eq_getElem?_getD, List.getElem?_eq_getElem h]; rfl
end NV
namespace NV
open PySem L2
/-! the text by places -/
def top (i : Nat) : Stmt := PySem.Challenge.pw_nearvault_k04_groups.main.body.getD i (.Pass ⟨0, 0, 0, 0⟩)
abbrev s_write_number : Stmt := top 2
abbrev s_read_number : Stmt := top 3
abbrev s_write_group : Stmt := top 6
abbrev s_read_groups : Stmt := top 7
abbrev s__law_draw : Stmt := top 9
abbrev s__law_content : Stmt := top 10
abbrev s__law_group : Stmt := top 11
abbrev s__law_bytes : Stmt := top 12
abbrev s_law : Stmt := top 13
theorem sc_write_number : FnScope ["width", "number", "k"] ["width", "number"] (defScope s_write_number) := ⟨rfl, rfl, rfl, by decide +kernel, rfl, by decide +kernel, by decide +kernel⟩
theorem sc_read_number : FnScope ["data", "place", "width", "number", "byte"] ["data", "place", "width"] (defScope s_read_number) := ⟨rfl, rfl, rfl, by decide +kernel, rfl, by decide +kernel, by decide +kernel⟩
theorem sc_write_group : FnScope ["pairs", "data", "number", "page"] ["pairs"] (defScope s_write_group) := ⟨rfl, rfl, rfl, by decide +kernel, rfl, by decide +kernel, by decide +kernel⟩
theorem sc_read_groups : FnScope ["data", "groups", "place", "count", "pairs", "k", "start"] ["data"] (defScope s_read_groups) := ⟨rfl, rfl, rfl, by decide +kernel, rfl, by decide +kernel, by decide +kernel⟩
theorem sc__law_draw : FnScope ["_law_state", "_law_script", "_law_size", "_law_cell", "_law_mixed", "_law_digit"] ["_law_state", "_law_script", "_law_size"] (defScope s__law_draw) := ⟨rfl, rfl, rfl, by decide +kernel, rfl, by decide +kernel, by decide +kernel⟩
theorem sc__law_content : FnScope ["_law_state", "_law_script"] ["_law_state", "_law_script"] (defScope s__law_content) := ⟨rfl, rfl, rfl, by decide +kernel, rfl, by decide +kernel, by decide +kernel⟩
theorem sc__law_group : FnScope ["_law_state", "_law_script", "_law_pairs", "_law_k", "_law_number"] ["_law_state", "_law_script"] (defScope s__law_group) := ⟨rfl, rfl, rfl, by decide +kernel, rfl, by decide +kernel, by decide +kernel⟩
theorem sc__law_bytes : FnScope ["_law_pairs", "_law_data", "_law_number", "_law_page"] ["_law_pairs"] (defScope s__law_bytes) := ⟨rfl, rfl, rfl, by decide +kernel, rfl, by decide +kernel, by decide +kernel⟩
theorem sc_law : FnScope ["_law_script", "_law_state", "_law_groups", "_law_data", "_law_pairs", "_law_handed", "_law_found", "_law_more", "_law_kept", "_law_pair", "_law_k"] ["_law_script"] (defScope s_law) := ⟨rfl, rfl, rfl, by decide +kernel, rfl, by decide +kernel, by decide +kernel⟩
/-- what the top has left -/
structure Txt (K : PySem.W.Frag) (mg : Str → Option Value) : Prop where
  f_write_number : ∃ f fd, Fun K "write_number" "write_number" s_write_number f fd ∧ mg "write_number" = some (.ref f)
  f_read_number : ∃ f fd, Fun K "read_number" "read_number" s_read_number f fd ∧ mg "read_number" = some (.ref f)
  f_write_group : ∃ f fd, Fun K "write_group" "write_group" s_write_group f fd ∧ mg "write_group" = some (.ref f)
  f_read_groups : ∃ f fd, Fun K "read_groups" "read_groups" s_read_groups f fd ∧ mg "read_groups" = some (.ref f)
  f__law_draw : ∃ f fd, Fun K "_law_draw" "_law_draw" s__law_draw f fd ∧ mg "_law_draw" = some (.ref f)
  f__law_content : ∃ f fd, Fun K "_law_content" "_law_content" s__law_content f fd ∧ mg "_law_content" = some (.ref f)
  f__law_group : ∃ f fd, Fun K "_law_group" "_law_group" s__law_group f fd ∧ mg "_law_group" = some (.ref f)
  f__law_bytes : ∃ f fd, Fun K "_law_bytes" "_law_bytes" s__law_bytes f fd ∧ mg "_law_bytes" = some (.ref f)
  f_law : ∃ f fd, Fun K "law" "law" s_law f fd ∧ mg "law" = some (.ref f)
  m_PAGE_SIZE : ∃ t, mg "PAGE_SIZE" = some (.int 256 t)
  m_NUMBER_SIZE : ∃ t, mg "NUMBER_SIZE" = some (.int 4 t)
  z_int : mg "int" = none
  z_isinstance : mg "isinstance" = none
  z_len : mg "len" = none
  z_list : mg "list" = none
  z_range : mg "range" = none
  z_tuple : mg "tuple" = none
/-! ### the reading's steps -/
local macro_rules | `(tactic| walk_at "nf") => `(tactic| first | exact id | assumption | exact Ne.symm (by assumption) | exact ne_of (by assumption) (by assumption) (by intro z; cases z) | exact ne_of_none (by assumption) (by assumption) | exact Ne.symm (ne_of_none (by assumption) (by assumption)))
local macro_rules | `(tactic| walk_at "hp") => `(tactic| first | assumption | exact upd_same | (refine' Kp.get (by assumption) ?hpa ?hpn; (case hpa => walk_at "hp"); (case hpn => walk_at "nf")) | (refine' Kp.tup (by assumption) ?hpa; (case hpa => walk_at "hp")))
local macro_rules | `(tactic| walk_at "sq") => `(tactic| first | assumption | exact SqL.of (by assumption) | exact SqT.of (by assumption) | exact Sc.sq (by assumption) | (refine' SqL.of ?hps; (case hps => walk_at "hp")) | (refine' SqT.of ?hps; (case hps => walk_at "hp")))
local macro_rules | `(tactic| walk_at "rd1") => `(tactic| (first
  | ((with_reducible refine' x_var ?vv ?_); (case vv => exact rfl))
  | ((with_reducible refine' x_ixL ?h1 ?h2 ?_); (case h1 => walk_at "sq"); (case h2 => (first | exact rfl | assumption)))
  | ((with_reducible refine' x_setL ?h1 ?h2 ?_); (case h1 => walk_at "hp"); (case h2 => (first | exact rfl | assumption)))
  | ((with_reducible refine' x_ixT ?h1 ?h2 ?_); (case h1 => walk_at "sq"); (case h2 => (first | exact rfl | assumption)))
  | ((with_reducible refine' x_lenL ?h1 ?_); (case h1 => walk_at "sq"))
  | ((with_reducible refine' x_lenT ?h1 ?_); (case h1 => walk_at "sq"))
  | ((with_reducible refine' x_I ?h1 ?_); (case h1 => (first | exact .inr ⟨by decide, by decide⟩ | exact .inl ⟨by decide, by decide⟩ | omega | exact ⟨by decide, by decide, by decide⟩ | exact fdiv_ok (by omega) (by omega))))
  | ((with_reducible refine' x_rg1 ?h1 ?h2 ?_); (case h1 => omega); (case h2 => omega))
  | ((with_reducible refine' x_rg2 ?h1 ?_); (case h1 => omega))
  | ((with_reducible refine' x_ty ?h1 ?_); (case h1 => walk_at "hp"))
  | ((with_reducible refine' x_gt ?h1 ?h2 ?_); (case h1 => walk_at "sq"); (case h2 => exact rfl))
  | ((with_reducible refine' x_fld ?h1 ?h2 ?h3 ?h4 ?_); (case h1 => walk_at "hp"); (case h2 => assumption); (case h3 => assumption); (case h4 => walk_at "lk"))
  | ((with_reducible refine' x_sfl ?h1 ?h2 ?h3 ?h4 ?h5 ?_); (case h1 => walk_at "hp"); (case h2 => assumption); (case h3 => assumption); (case h4 => walk_at "ln"); (case h5 => walk_at "pt"))
  | ((with_reducible refine' x_augI ?h1 ?h2 ?h3 ?h4 ?_); (case h1 => walk_at "hp"); (case h2 => assumption); (case h3 => assumption); (case h4 => walk_at "lk"))
  | ((with_reducible refine' x_augP ?h1 ?h2 ?h3 ?_); (case h1 => walk_at "hp"); (case h2 => walk_at "ln"); (case h3 => walk_at "pt"))
  | ((with_reducible refine' x_mt ?h1 ?h2 ?_); (case h1 => walk_at "hp"); (case h2 => walk_at "no"))
  | ((with_reducible refine' x_dgS ?h1 ?h2 ?_); (case h1 => refine' Or.inl ?h3; walk_at "hp"); (case h2 => walk_at "rv"))
  | ((with_reducible refine' x_dpS ?h1 ?h2 ?h3 ?_); (case h1 => walk_at "hp"); (case h2 => walk_at "rp"); (case h3 => exact Nat.le_of_ble_eq_true rfl))
  | ((with_reducible refine' x_g2a ?h1 ?_); (case h1 => refine' Or.inl ?h3; walk_at "hp"))
  | ((with_reducible refine' x_g2b ?h1 ?_); (case h1 => refine' Or.inl ?h3; walk_at "hp"))
  | ((with_reducible refine' x_diI ?h1 ?_); (case h1 => refine' Or.inl ?h3; walk_at "hp"))
  | ((with_reducible refine' x_dnI ?h1 ?_); (case h1 => refine' Or.inl ?h3; walk_at "hp"))
  | ((with_reducible refine' x_rev ?h1 ?_); (case h1 => walk_at "sq"))
  | ((with_reducible refine' x_iL1 ?h1 ?_); (case h1 => walk_at "sq"))
  | ((with_reducible refine' x_iT1 ?h1 ?_); (case h1 => walk_at "sq"))
  | with_reducible first
  | refine x_seq ?_ | refine x_asg ?_ | refine x_ifS ?_ | refine x_tst ?_ | refine x_op ?_ | refine x_c ?_ | refine x_I0 ?_ | refine x_bl ?_
  | refine x_cb ?_ | refine x_cons ?_ | refine x_nil ?_ | refine x_ret ?_ | refine x_retN ?_ | refine x_drop ?_ | refine x_next ?_
  | refine x_eqI ?_ | refine x_neI ?_ | refine x_eqS ?_ | refine x_neS ?_ | refine x_eqB ?_ | refine x_neB ?_ | refine x_intI ?_ | refine x_intB ?_ | refine x_and ?_ | refine x_or ?_ | refine x_not ?_
  | refine x_andV ?_ | refine x_orV ?_ | refine x_notV ?_ | refine x_ifE ?_ | refine x_ch ?_ | refine x_tup ?_ | refine x_lst ?_ | refine x_callS ?_ | refine x_sub ?_ | refine x_un ?_ | refine x_neg ?_ | refine x_tB ?_ | refine x_tfld ?_ | refine x_tsf ?_ | refine x_aug ?_ | refine x_radd ?_ | refine x_rsub ?_ | refine x_tmt ?_ | refine x_mk ?_ | refine x_tdg ?_ | refine x_tdi ?_ | refine x_tdn ?_ | refine x_tg2 ?_ | refine x_tdp ?_ | refine x_irev ?_ | refine x_isNi ?_ | refine x_isNr ?_ | refine x_isNn ?_ | refine x_notNi ?_ | refine x_notNr ?_ | refine x_notNn ?_ | refine x_bm ?_ | refine x_bm0 ?_ | refine x_gc ?_ | refine x_g0 ?_ | refine x_and255 ?_ | refine x_ifNT ?_ | refine x_ifNF ?_ | refine x_yes ?_ | refine x_isiI ?_ | refine x_isiB ?_ | refine x_ifTT ?_ | refine x_ifFF ?_ | refine x_gn ?_ | refine x_for ?_ | refine x_lc ?_ | refine x_rng1 ?_ | refine x_rng2 ?_ | refine x_iL ?_ | refine x_iT ?_ | refine x_abs ?_ | refine x_max2 ?_ | refine x_min2 ?_ | refine x_sl ?_ | refine x_part ?_ | refine x_part1 ?_ | refine x_nopart ?_))
local macro_rules | `(tactic| walk_at "rd") => `(tactic| repeat walk_at "rd1")
local macro_rules | `(tactic| walk_at "cx") => `(tactic| dsimp only [cxOf, Cx.nox, Cx.wish, L2.start, List.map_cons, List.map_nil, List.length_cons, List.length_nil, List.reduceReplicate, List.cons_append, List.nil_append, Nat.reduceAdd, Nat.reduceSub])
/-! ### more steps -/
section
variable {K : PySem.W.Frag} {σ : L2.St} {H : Hp} {Q : VK} {D : Ends} {tc : TT} {tb : TS} {a : Addr}
theorem x_wh (Pv : Nat → L2.St → Hp → Prop) (h0 : ∃ m, Pv m σ H) (hs : ∀ m σ H, Pv m σ H → tc σ H fun b H1 => if b = true then ∃ N : L2.St → Hp → Prop, (∀ σ' H', N σ' H' → ∃ m', m' < m ∧ Pv m' σ' H') ∧ tb { nx := N, rt := D.rt, bk := D.nx, ct := N } σ H1 else D.nx σ H1) : tWhile tc tb D σ H :=
  ⟨Pv, h0, hs⟩
theorem x_augv {ti : TIp} {te : TE} {i : Nat} {x : V} (e : σ[i]? = some (some x)) (h : te σ H fun y H1 => ti x y H1 fun z H2 => D.nx (σ.set i (some z)) H2) : tAug i te ti D σ H := ⟨x, e, h⟩
theorem x_ipI {f : Int → Int → Int} {i j : Int} (h : Q (.int (f i j)) H) : ipI f (.int i) (.int j) H Q := ⟨i, j, rfl, rfl, h⟩
theorem x_isiR {T S : String} {b : Bool} (ht : TyX K H (.ref a) (.type T)) (hk : PySem.W.kitOne K (.type T) (.type S) = some b) (q : Q (.bl b) H) : rIsi K [.ref a, .ty S] H Q := ⟨_, _, _, _, b, rfl, .ty S, ht, hk, q⟩
theorem if_dtt {p A B : Prop} [Decidable p] (n : p) (h : A) : if decide p = true then A else B := by rw [if_pos (by simpa using n)]; exact h
theorem if_dff {p A B : Prop} [Decidable p] (n : ¬ p) (h : B) : if decide p = true then A else B := by rw [if_neg (by simpa using n)]; exact h
theorem x_cutN {D : Ends} {t u : TS} (h : t { D with nx := u D } σ H) : C8.tCut t u D σ H := ⟨u D, h, fun _ _ z => z⟩
end
/-- a comprehension whose list so far may tell of the heap: D the list's place -/
theorem wlcH {J : It} {G : Hp → Prop} {xs : List V} {g : TG} {tt : TT} {te : TE} {vs : List Nat} {σ : L2.St} {H0 : Hp} {Qd : Addr → Hp → Prop} (W : Wk J G xs) (F : Addr → Prop) (Pv : Addr → Nat → List V → Hp → Prop)
    (hF : ∀ b, F b → H0 b ≠ none) (hz : xs.length ≤ 100000) (hG : ∀ D i acc H', Pv D i acc H' → Kp F H0 H' → G H') (h0 : ∀ D, H0 D = none → Pv D 0 [] (upd H0 D (.lst []))) (hSt : ∀ D i acc H' H4, Kp (F1 D) H' H4 → Pv D i acc H' → Pv D i acc H4)
    (hs : ∀ D i x acc H' (R : V → Hp → Prop) (R0 : Hp → Prop), xs[i]? = some x → H0 D = none → H' D = some (.lst acc) → Pv D i acc H' → Kp F H0 H' → (∀ y H4, Kp F H' H4 → Pv D (i + 1) (acc ++ [y]) H4 → R y H4) → (∀ H4, Kp F H' H4 → Pv D (i + 1) acc H4 → R0 H4) →
      g x (wipe σ vs) H' fun σ2 H2 => wipe σ2 vs = wipe σ vs ∧ tt σ2 H2 fun b H3 => if b = true then te σ2 H3 R else R0 H3)
    (hd : ∀ D H' acc, H0 D = none → H' D = some (.lst acc) → Pv D xs.length acc H' → Kp F H0 H' → Qd D H') :
    ∀ D, H0 D = none → ∃ W : Nat → Nat → Hp → Prop, (∃ m, W 0 m (upd H0 D (.lst []))) ∧ ∀ i m H, W i m H →
      (J.stop i H ∧ Qd D H) ∨ (J.go i H ∧ ∃ Nx : Hp → Prop, (∀ H', Nx H' → ∃ m', m' < m ∧ W (i + 1) m' H') ∧ ∀ x H', J.yld i H x H' → g x (wipe σ vs) H' fun σ2 H2 => wipe σ2 vs = wipe σ vs ∧ tt σ2 H2 fun b H3 =>
        if b = true then te σ2 H3 fun y H4 => ∃ acc, H4 D = some (.lst acc) ∧ acc.length < sizeLine ∧ Nx (upd H4 D (.lst (acc ++ [y]))) else Nx H3) := by
  intro D hD
  have nFD : ¬ F D := fun z => hF D z hD
  refine ⟨fun i m H' => m = xs.length - i ∧ i ≤ xs.length ∧ ∃ acc, H' D = some (.lst acc) ∧ acc.length ≤ i ∧ Pv D i acc H' ∧ Kp F H0 H',
    ⟨_, rfl, Nat.zero_le _, [], upd_same, Nat.le_refl _, h0 D hD, (Kp.new hD).mono fun b z => z.elim⟩, ?_⟩
  rintro i m H ⟨rfl, hi, acc, hacc, hl, p, kp⟩
  by_cases hlt : i < xs.length
  · refine .inr ⟨W.go i H hlt (hG _ _ _ _ p kp), _, fun H' z => ⟨xs.length - (i + 1), by omega, z⟩, fun x H' y => ?_⟩
    obtain ⟨rfl, e⟩ := W.yld i H x H' hlt (hG _ _ _ _ p kp) y
    refine hs D i x acc _ _ _ e hD hacc p kp (fun y H4 k4 p4 => ?_) (fun H4 k4 p4 => ?_)
    · have h4 := k4.get hacc nFD
      refine ⟨acc, h4, Nat.lt_of_le_of_lt (Nat.le_trans hl (Nat.le_trans hi hz)) (by decide), rfl, hlt, acc ++ [y], upd_same, by rw [List.length_append, List.length_singleton]; omega, hSt D _ _ _ _ (Kp.put h4 id) p4, ?_⟩
      intro b o hb n
      rw [upd_ne (ne_of_none hb hD)]
      exact k4 b o (kp b o hb n) n
    · exact ⟨rfl, hlt, acc, k4.get hacc nFD, by omega, p4, fun b o hb n => k4 b o (kp b o hb n) n⟩
  · obtain rfl : i = xs.length := by omega
    exact .inl ⟨W.stop H (hG _ _ _ _ p kp), hd D H acc hD hacc p kp⟩
theorem pgt {α β : Type} {R : α → β → Prop} : ∀ {l : List α} {m : List β} {i : Nat} {x : α}, Paired R l m → l[i]? = some x → ∃ y, m[i]? = some y ∧ R x y
  | _, _, 0, _, .cons r _, e => by simp at e; subst e; exact ⟨_, rfl, r⟩
  | _, _, i + 1, _, .cons r t, e => by rw [List.getElem?_cons_succ] at e ⊢; exact pgt t e
  | _, _, _, _, .nil, e => by simp at e
theorem pgetr {α β : Type} {R : α → β → Prop} {l : List α} {m : List β} {i : Nat} {y : β} (h : Paired R l m) (e : m[i]? = some y) : ∃ x, l[i]? = some x ∧ R x y := by
  have hi : i < l.length := by rw [h.length]; exact (List.getElem?_eq_some_iff.mp e).1
  obtain ⟨z, ez, r⟩ := pgt h (List.getElem?_eq_getElem hi)
  rw [e] at ez; cases ez
  exact ⟨_, List.getElem?_eq_getElem hi, r⟩
/-! ### pairs of numbers and pages, groups of them, lists of groups -/
def PAt (O : Addr → Prop) (H : Hp) (v : V) (q : Int × List Int) : Prop := ∃ t l, v = .ref t ∧ H t = some (.tup [.int q.1, .ref l]) ∧ H l = some (.lst (q.2.map V.int)) ∧ O l
def GAt (O : Addr → Prop) (H : Hp) (v : V) (g : List (Int × List Int)) : Prop := ∃ a ws, v = .ref a ∧ H a = some (.lst ws) ∧ O a ∧ Paired (PAt O H) ws g
def GsAt (O : Addr → Prop) (H : Hp) (a : Addr) (gs : List (List (Int × List Int))) : Prop := ∃ vs, H a = some (.lst vs) ∧ O a ∧ Paired (GAt O H) vs gs
section
variable {O O' F : Addr → Prop} {H H' : Hp} {v : V} {q : Int × List Int} {g : List (Int × List Int)} {gs : List (List (Int × List Int))} {a : Addr}
theorem PAt.kp (s : Kp F H H') (n : ∀ b o, H b = some o → O b → ¬ F b) (h : PAt O H v q) : PAt O H' v q := by
  obtain ⟨t, l, e, ht, hl, o⟩ := h
  exact ⟨t, l, e, s.tup ht, s.get hl (n _ _ hl o), o⟩
theorem GAt.kp (s : Kp F H H') (n : ∀ b o, H b = some o → O b → ¬ F b) (h : GAt O H v g) : GAt O H' v g := by
  obtain ⟨a, ws, e, ha, o, p⟩ := h
  exact ⟨a, ws, e, s.get ha (n _ _ ha o), o, p.mono fun _ _ r => r.kp s n⟩
theorem GsAt.kp (s : Kp F H H') (n : ∀ b o, H b = some o → O b → ¬ F b) (h : GsAt O H a gs) : GsAt O H' a gs := by
  obtain ⟨vs, ha, o, p⟩ := h
  exact ⟨vs, s.get ha (n _ _ ha o), o, p.mono fun _ _ r => r.kp s n⟩
theorem PAt.own (n : ∀ b, (∃ o, H b = some o) → O b → O' b) (h : PAt O H v q) : PAt O' H v q := by
  obtain ⟨t, l, e, ht, hl, o⟩ := h
  exact ⟨t, l, e, ht, hl, n _ ⟨_, hl⟩ o⟩
theorem GAt.own (n : ∀ b, (∃ o, H b = some o) → O b → O' b) (h : GAt O H v g) : GAt O' H v g := by
  obtain ⟨a, ws, e, ha, o, p⟩ := h
  exact ⟨a, ws, e, ha, n _ ⟨_, ha⟩ o, p.mono fun _ _ r => r.own n⟩
def pD (q : Int × List Int) : PyData := .tuple [.int q.1, .list (q.2.map PyData.int)]
def gD (g : List (Int × List Int)) : PyData := .list (g.map pD)
def gsD (gs : List (List (Int × List Int))) : PyData := .list (gs.map gD)
theorem dp_all {K : PySem.W.Frag} {α : Type} {R : V → α → Prop} {f : α → PyData} (hf : ∀ v x, R v x → Dp K H v (f x)) : ∀ {vs : List V} {xs : List α}, Paired R vs xs → DpAll K H vs (xs.map f)
  | _, _, .nil => .nil
  | _, _, .cons r t => .cons (hf _ _ r) (dp_all hf t)
theorem PAt.dp {K : PySem.W.Frag} (h : PAt O H v q) : Dp K H v (pD q) := by
  obtain ⟨t, l, rfl, ht, hl, o⟩ := h
  exact .tup (SqT.of ht) (.cons (.int _) (.cons (.lst (SqL.of hl) (dp_ints _)) .nil))
theorem GAt.dp {K : PySem.W.Frag} (h : GAt O H v g) : Dp K H v (gD g) := by
  obtain ⟨a, ws, rfl, ha, o, p⟩ := h
  exact .lst (SqL.of ha) (dp_all (fun _ _ r => r.dp) p)
theorem GsAt.dp {K : PySem.W.Frag} (h : GsAt O H a gs) : Dp K H (.ref a) (gsD gs) := by
  obtain ⟨vs, ha, o, p⟩ := h
  exact .lst (SqL.of ha) (dp_all (fun _ _ r => r.dp) p)
theorem pD_sh (q : Int × List Int) : Sh 2 (pD q) := Sh.tuple fun d hd => by
  rcases List.mem_cons.mp hd with h | h
  · rw [h]; exact ⟨(Sh.int _).1, Nat.le_trans (Sh.int _).2.1 (by decide), (Sh.int _).2.2⟩
  · rw [List.mem_singleton.mp h]; exact Sh.list (sh_ints _)
theorem gD_sh (g : List (Int × List Int)) : Sh 3 (gD g) := Sh.list fun d hd => by
  obtain ⟨q, _, rfl⟩ := List.mem_map.mp hd
  exact pD_sh q
theorem gsD_sh (gs : List (List (Int × List Int))) : Sh 4 (gsD gs) := Sh.list fun d hd => by
  obtain ⟨q, _, rfl⟩ := List.mem_map.mp hd
  exact gD_sh q
theorem eqv_refl {d : PyData} (h : nb d = true) : PyData.eqv d d = true := (eqv_nb d d h h).mpr rfl
end
/-! ### numbers and points as bytes, in plain Lean -/
/-- the last w bytes of a number, most significant first -/
def wn : Nat → Int → List Int
  | 0, _ => []
  | w + 1, n => wn w (n / 256) ++ [n % 256]
def rn (l : List Int) : Int := l.foldl (fun a b => a * 256 + b) 0
def wp (p : List Int) : List Int := p.flatMap fun c => wn 2 (c + 32768)
def rp (l : List Int) (place : Nat) (d : Nat) : List Int := (List.range d).map fun k => rn ((l.drop (place + 2 * k)).take 2) - 32768
/-- a list of bytes -/
def Byt (l : List Int) : Prop := ∀ x ∈ l, 0 ≤ x ∧ x < 256
theorem wn_len : ∀ (w : Nat) (n : Int), (wn w n).length = w
  | 0, _ => rfl
  | w + 1, n => by show (wn w (n / 256) ++ [n % 256]).length = w + 1; rw [List.length_append, wn_len w]; rfl
theorem wn_byt : ∀ (w : Nat) (n : Int), Byt (wn w n)
  | 0, _, x, h => by cases h
  | w + 1, n, x, h => by
    rcases List.mem_append.mp (show x ∈ wn w (n / 256) ++ [n % 256] from h) with h | h
    · exact wn_byt w _ x h
    · rw [List.mem_singleton.mp h]; omega
theorem pow256 (k : Nat) : (0 : Int) < 256 ^ k := Int.pow_pos (by decide)
theorem wn_cons : ∀ (w : Nat) (n : Int), wn (w + 1) n = (n / 256 ^ w % 256) :: wn w n
  | 0, n => by show [] ++ [n % 256] = _; simp [wn]
  | w + 1, n => by
    show wn (w + 1) (n / 256) ++ [n % 256] = _
    rw [wn_cons w (n / 256)]
    show (n / 256 / 256 ^ w % 256) :: (wn w (n / 256) ++ [n % 256]) = (n / 256 ^ (w + 1) % 256) :: wn (w + 1) n
    rw [Int.ediv_ediv_of_nonneg (by decide), Int.mul_comm, ← Int.pow_succ]; rfl
theorem rn_app (l : List Int) (x : Int) : rn (l ++ [x]) = rn l * 256 + x := by unfold rn; rw [List.foldl_append]; rfl
theorem rn_wn : ∀ (w : Nat) (n : Int), 0 ≤ n → n < 256 ^ w → rn (wn w n) = n
  | 0, n, h0, h1 => by rw [Int.pow_zero] at h1; show (0 : Int) = n; omega
  | w + 1, n, h0, h1 => by
    show rn (wn w (n / 256) ++ [n % 256]) = n
    rw [Int.pow_succ] at h1
    rw [rn_app, rn_wn w (n / 256) (by omega) (by omega)]
    omega
theorem rn_nn {l : List Int} (h : Byt l) : 0 ≤ rn l := by
  have q : ∀ (l : List Int) (a : Int), 0 ≤ a → Byt l → 0 ≤ l.foldl (fun a b => a * 256 + b) a := by
    intro l
    induction l with
    | nil => intro a h _; exact h
    | cons x l ih =>
      intro a h0 h
      have := h x (by simp)
      exact ih _ (show 0 ≤ a * 256 + x by omega) fun y hy => h y (List.mem_cons_of_mem _ hy)
  exact q l 0 (by decide) h
theorem wn_get {w : Nat} {n : Int} {k : Nat} (h : k < w) : (wn w n)[k]? = some (n / 256 ^ (w - 1 - k) % 256) := by
  induction w generalizing n k with
  | zero => omega
  | succ w ih =>
    rw [wn_cons]
    cases k with
    | zero => simp
    | succ k =>
      rw [List.getElem?_cons_succ, ih (by omega)]
      congr 4; omega
theorem pow_256 (k : Nat) : (2 : Int) ^ (8 * k) = 256 ^ k := by rw [Int.pow_mul]; rfl
theorem wp_app (p : List Int) (c : Int) : wp (p ++ [c]) = wp p ++ wn 2 (c + 32768) := by unfold wp; rw [List.flatMap_append]; simp
theorem wp_len (p : List Int) : (wp p).length = 2 * p.length := by
  induction p with
  | nil => rfl
  | cons c p ih =>
    show (wn 2 (c + 32768) ++ wp p).length = 2 * (p.length + 1)
    rw [List.length_append, ih, wn_len]; omega
theorem wp_byt (p : List Int) : Byt (wp p) := by
  intro x h
  obtain ⟨c, _, hx⟩ := List.mem_flatMap.mp h
  exact wn_byt _ _ x hx
/-- coordinates in their range -/
def Crd (p : List Int) : Prop := ∀ x ∈ p, -32768 ≤ x ∧ x ≤ 32767
theorem wp_drop (p : List Int) : ∀ k : Nat, (wp p).drop (2 * k) = wp (p.drop k)
  | 0 => by simp
  | k + 1 => by
    cases p with
    | nil => simp [wp]
    | cons c p =>
      show (wn 2 (c + 32768) ++ wp p).drop (2 * (k + 1)) = wp (p.drop k)
      rw [← wp_drop p k, List.drop_append, wn_len]
      rw [List.drop_eq_nil_of_le (by rw [wn_len]; omega), List.nil_append]
      congr 1
theorem rp_wp {p : List Int} (h : Crd p) (a b : List Int) : rp (a ++ wp p ++ b) a.length p.length = p := by
  unfold rp
  apply List.ext_getElem
  · simp
  · intro k h1 h2
    simp only [List.getElem_map, List.getElem_range]
    have e : (a ++ wp p ++ b).drop (a.length + 2 * k) = wn 2 (p[k] + 32768) ++ (wp (p.drop (k + 1)) ++ b) := by
      rw [List.append_assoc, List.drop_append, List.drop_eq_nil_of_le (by omega), List.nil_append, Nat.add_sub_cancel_left, List.drop_append, wp_drop]
      rw [show 2 * k - (wp p).length = 0 by rw [wp_len]; omega, List.drop_zero, List.drop_eq_getElem_cons h2]
      show wn 2 (p[k] + 32768) ++ wp (p.drop (k + 1)) ++ b = _
      rw [List.append_assoc]
    have hc := h p[k] (by simp)
    rw [e, List.take_append_of_le_length (by rw [wn_len]; omega), List.take_of_length_le (Nat.le_of_eq (wn_len _ _)), rn_wn _ _ (by omega) (by omega)]
    omega
/-! ### groups, in plain Lean -/
def chunk (q : Int × List Int) : List Int := wn 4 q.1 ++ q.2
def wg (g : List (Int × List Int)) : List Int := wn 4 g.length ++ g.flatMap chunk
structure Good (g : List (Int × List Int)) : Prop where
  n : g.length ≤ 60
  q : ∀ q ∈ g, 0 ≤ q.1 ∧ q.1 < 256 ^ 4 ∧ q.2.length = 256
theorem chunk_len {q : Int × List Int} (h : q.2.length = 256) : (chunk q).length = 260 := by unfold chunk; rw [List.length_append, wn_len, h]
theorem fm_len {α : Type} {f : α → List Int} {n : Nat} : ∀ {g : List α}, (∀ q ∈ g, (f q).length = n) → (g.flatMap f).length = n * g.length
  | [], _ => rfl
  | q :: g, h => by
    rw [List.flatMap_cons, List.length_append, h q (by simp), fm_len (g := g) fun r hr => h r (List.mem_cons_of_mem _ hr), List.length_cons, Nat.mul_succ, Nat.add_comm]
theorem fm_drop {α : Type} {f : α → List Int} {n : Nat} : ∀ {g : List α} {k : Nat} {q : α}, (∀ q ∈ g, (f q).length = n) → g[k]? = some q → (g.flatMap f).drop (n * k) = f q ++ (g.drop (k + 1)).flatMap f
  | [], _, _, _, e => by simp at e
  | r :: g, 0, q, h, e => by
    simp only [List.getElem?_cons_zero, Option.some.injEq] at e
    subst e
    rw [Nat.mul_zero, List.drop_zero, List.flatMap_cons]; rfl
  | r :: g, k + 1, q, h, e => by
    rw [List.getElem?_cons_succ] at e
    rw [List.flatMap_cons, Nat.mul_succ, Nat.add_comm (n * k) n, ← List.drop_drop, List.drop_left' (h r (by simp)), fm_drop (g := g) (fun r hr => h r (List.mem_cons_of_mem _ hr)) e]; rfl
theorem wg_len {g : List (Int × List Int)} (h : Good g) : (wg g).length = 4 + 260 * g.length := by
  unfold wg
  rw [List.length_append, wn_len, fm_len fun q hq => chunk_len (h.q q hq).2.2]
/-- what is read at a group's beginning -/
theorem rd_count {A T ds : List Int} {g : List (Int × List Int)} (h : Good g) (e : ds = A ++ (wg g ++ T)) : rn ((ds.drop A.length).take 4) = g.length := by
  subst e
  rw [List.drop_left, wg, List.append_assoc, List.take_left' (wn_len 4 _)]
  exact rn_wn 4 _ (by omega) (by have := h.n; omega)
theorem rd_chunk {A T ds : List Int} {g : List (Int × List Int)} {k : Nat} {q : Int × List Int} (h : Good g) (e : ds = A ++ (wg g ++ T)) (hq : g[k]? = some q) :
    rn ((ds.drop (A.length + 4 + 260 * k)).take 4) = q.1 ∧ (ds.drop (A.length + 4 + 260 * k + 4)).take 256 = q.2 := by
  have hm := h.q q (List.mem_of_getElem? hq)
  have hd : ds.drop (A.length + 4 + 260 * k) = wn 4 q.1 ++ (q.2 ++ ((g.drop (k + 1)).flatMap chunk ++ T)) := by
    subst e
    rw [Nat.add_assoc, ← List.drop_drop, List.drop_left, wg, List.append_assoc, ← List.drop_drop, List.drop_left' (wn_len 4 _), List.drop_append_of_le_length, fm_drop (fun q hq => chunk_len (h.q q hq).2.2) hq]
    · unfold chunk; simp only [List.append_assoc]
    · rw [fm_len fun q hq => chunk_len (h.q q hq).2.2]
      have := (List.getElem?_eq_some_iff.mp hq).1
      omega
  constructor
  · rw [hd, List.take_left' (wn_len 4 _)]
    exact rn_wn 4 _ hm.1 hm.2.1
  · rw [← List.drop_drop, hd, List.drop_left' (wn_len 4 _), List.take_left' hm.2.2]
/-- the beginning of a group that is cut off -/
theorem rd_part {A ds : List Int} {g : List (Int × List Int)} {j : Nat} (h : Good g) (e : ds = A ++ (wg g).take j) (hj : 4 ≤ j) : rn ((ds.drop A.length).take 4) = g.length := by
  subst e
  rw [List.drop_left, List.take_take, Nat.min_eq_left hj, wg, List.take_left' (wn_len 4 _)]
  exact rn_wn 4 _ (by omega) (by have := h.n; omega)
theorem wn4 {n : Int} (h0 : 0 ≤ n) (h1 : n < 256 ^ 4) : [n / 2 ^ 24, n / 2 ^ 16 % 256, n / 2 ^ 8 % 256, n % 256] = wn 4 n := by
  have e : wn 4 n = [n / 256 / 256 / 256 % 256, n / 256 / 256 % 256, n / 256 % 256, n % 256] := rfl
  rw [e]
  simp only [List.cons.injEq, and_true]
  refine ⟨?_, ?_, ?_⟩ <;> omega
theorem takes {α : Type} {f : α → List Int} {l : List α} {i : Nat} {x : α} (e : l[i]? = some x) : (l.take (i + 1)).flatMap f = (l.take i).flatMap f ++ f x := by
  rw [List.take_succ, e, List.flatMap_append]; simp
/-- the groups' flat form at the i-th -/
theorem flat_at {gs : List (List (Int × List Int))} {i : Nat} {g : List (Int × List Int)} (T : List Int) (e : gs[i]? = some g) : gs.flatMap wg ++ T = (gs.take i).flatMap wg ++ (wg g ++ ((gs.drop (i + 1)).flatMap wg ++ T)) := by
  have hi := (List.getElem?_eq_some_iff.mp e).1
  have h2 : gs.drop i = g :: gs.drop (i + 1) := by
    rw [List.drop_eq_getElem_cons hi, (List.getElem?_eq_some_iff.mp e).2]
  conv => lhs; rw [← List.take_append_drop i gs, List.flatMap_append, h2, List.flatMap_cons]
  simp only [List.append_assoc]
section
variable {P : Program} {w : World} {K : PySem.W.Frag} {mg : Str → Option Value} {base : Heap}
def Dr (K : PySem.W.Frag) (H : Hp) (st sc : Addr) : Prop := ∃ (i v : Int) (ns : List Int), 0 ≤ i ∧ 0 ≤ v ∧ H st = some (.lst [.int i, .int v]) ∧ ns.length ≤ 63 ∧ Sc K H sc ns
def sp__law_draw (K : PySem.W.Frag) : Sp := fun vs H Q _ => ∃ st sc n, vs = [.ref st, .ref sc, .int n] ∧ 0 < n ∧ n < 2 ^ 64 ∧ Dr K H st sc ∧
  ∀ d H', 0 ≤ d → d < n → Dr K H' st sc → Kp (F1 st) H H' → Q (.int d) H'
theorem ok__law_draw (T : Txt K mg) : GF P w K mg base CX0 1 "_law_draw" (sp__law_draw K) := by
  obtain ⟨f, fd, F, gm⟩ := T.f__law_draw
  refine ⟨f, fd, ["_law_state", "_law_script", "_law_size"], F.ok sc__law_draw ?_ (fun cdv A outer s H vs Q E hr h => ?_), gm, F.kp, (F.binds (ps := ["_law_state", "_law_script", "_law_size"]) fun _ _ _ _ _ _ us hl => match us, hl with | [_, _, _], _ => rfl)⟩
  · rintro vs H Q E ⟨_, _, _, rfl, _⟩
    rfl
  · obtain ⟨st, sc, n, rfl, hn0, hn1, ⟨i, v, ns, hi, hv, hst, hlen, hsc⟩, k⟩ := h
    refine ⟨_, (C8.pss_cut (ps_if (pt_cmpR op_eq (pe_ix (r := rIxL K) ix_list (pv 0) pe_int (fun _ _ => rfl)) pe_int (nomark _)) (pss_cons (ps_set (i := 3) sc__law_draw.nd rfl (Or.inl rfl) pe_int)
      (C8.pss_cut (ps_if (pt_cmpR op_gt (pe_callB (r := rLenQ K) c_len (by rfl) T.z_len PySem.boot_len (pa_cons (pv 1) pa_nil)) pe_int (nomark _)) (pss_one (ps_set (i := 3) sc__law_draw.nd rfl (Or.inl rfl) (pe_ix (r := rIxL K) ix_list (pv 1) (pe_op op_mod (pe_ix (r := rIxL K) ix_list (pv 0) pe_int (fun _ _ => rfl)) (pe_callB (r := rLenQ K) c_len (by rfl) T.z_len PySem.boot_len (pa_cons (pv 1) pa_nil))) (fun _ _ => rfl)))) pss_nil)
      (C8.pss_cut (ps_if (pt_cmpR op_lt (pv 3) pe_int (nomark _)) (pss_one (ps_set (i := 3) sc__law_draw.nd rfl (Or.inl rfl) (pe_op op_sub pe_int (pe_op op_mul pe_int (pv 3))))) pss_nil)
      (pss_cons (ps_set (i := 4) sc__law_draw.nd rfl (Or.inl rfl) (pe_op op_mod (pe_callTy c_int (by rfl) T.z_int (by decide +kernel) (pa_cons (pe_op op_mul (pe_op op_add (pe_op op_add (pv 3) (pe_op op_mul (pe_ix (r := rIxL K) ix_list (pv 0) pe_int (fun _ _ => rfl)) pe_int)) pe_int) pe_int) pa_nil)) pe_int))
      (pss_cons (ps_asg (pe_op op_mod (pe_callTy c_int (by rfl) T.z_int (by decide +kernel) (pa_cons (pe_op op_add (pe_op op_mul (pv 4) pe_int) (pe_op op_mul (pe_ix (r := rIxL K) ix_list (pv 0) pe_int (fun _ _ => rfl)) pe_int)) pa_nil)) pe_int) (pg_sub (pv 0) pe_int set_list))
      (C8.pss_cut (ps_if (PW.pt (pw_and (pt_cmpR op_ge (pv 3) (pe_op op_pow pe_int pe_int) (nomark _)) (pw_and1 (pt_cmpR op_lt (pe_ix (r := rIxL K) ix_list (pv 0) pe_int (fun _ _ => rfl)) (pe_callB (r := rLenQ K) c_len (by rfl) T.z_len PySem.boot_len (pa_cons (pv 1) pa_nil)) (nomark _))))) (pss_one (ps_asg (pv 3) (pg_sub (pv 0) pe_int set_list))) pss_nil)
      (pss_one (ps_asg (pe_op op_add (pe_ix (r := rIxL K) ix_list (pv 0) pe_int (fun _ _ => rfl)) pe_int) (pg_sub (pv 0) pe_int set_list))))))))) pss_nil)
      (pss_cons (ps_set (i := 5) sc__law_draw.nd rfl (Or.inl rfl) (pe_op op_mod (pe_callTy c_int (by rfl) T.z_int (by decide +kernel) (pa_cons (pe_ix (r := rIxL K) ix_list (pv 0) pe_int (fun _ _ => rfl)) pa_nil)) (pv 2)))
      (pss_cons (ps_asg (pe_op op_fdivW (pe_ix (r := rIxL K) ix_list (pv 0) pe_int (fun _ _ => rfl)) (pv 2)) (pg_sub (pv 0) pe_int set_list))
      (pss_one (ps_ret (pv 5)))))), ?_⟩
    walk_at "cx"
    walk_at "rd"
    have kpu : ∀ o, Kp (F1 st) H (upd H st o) := fun o => Kp.put hst id
    refine x_cut (fun σ' H' => ∃ (i' v' : Int) (u1 u2 : Option V), σ' = [some (.ref st), some (.ref sc), some (.int n), u1, u2, none] ∧ 0 ≤ i' ∧ 0 ≤ v' ∧ H' = upd H st (.lst [.int i', .int v'])) ?_ ?_
    · walk_at "rd"
      refine ite_dec (fun e => ?_) (fun e => ?_)
      · walk_at "rd"
        refine x_cut (fun σ' H' => ∃ (c : Int), σ' = [some (.ref st), some (.ref sc), some (.int n), some (.int c), none, none] ∧ H = H') ?_ ?_
        · walk_at "rd"
          refine ite_dec (fun e1 => ?_) (fun e1 => ?_)
          · have hl : (0 : Int) < ((ns.map V.int).length : Int) := e1
            have hb := Int.emod_lt_of_pos i hl
            have hb0 := Int.emod_nonneg i (Int.ne_of_gt hl)
            walk_at "rd"
            refine x_ixL hsc.sq (v := .int (ns.getD (i % ((ns.map V.int).length : Int)).toNat 0)) (atI_at (i % ((ns.map V.int).length : Int)).toNat (by omega) ?_) ?_
            · rw [List.length_map] at *
              rw [List.getElem?_map, List.getD_eq_getElem?_getD, List.getElem?_eq_getElem (by omega)]
              rfl
            · walk_at "rd"
              exact ⟨_, rfl, rfl⟩
          · exact ⟨0, rfl, rfl⟩
        · rintro σ' H' ⟨c, rfl, rfl⟩
          refine x_cut (fun σ' H' => ∃ (c : Int), 0 ≤ c ∧ σ' = [some (.ref st), some (.ref sc), some (.int n), some (.int c), none, none] ∧ H = H') ?_ ?_
          · walk_at "rd"
            refine ite_dec (fun e2 => ?_) (fun e2 => ?_)
            · walk_at "rd"
              exact ⟨_, by omega, rfl, rfl⟩
            · exact ⟨c, by omega, rfl, rfl⟩
          · rintro σ' H' ⟨c, hc, rfl, rfl⟩
            walk_at "rd"
            have hm0 : ∀ z : Int, 0 ≤ z % 4294967291 := fun z => Int.emod_nonneg z (by decide)
            refine x_cut (fun σ' H' => ∃ (v' : Int) (u1 : Option V), 0 ≤ v' ∧ σ' = [some (.ref st), some (.ref sc), some (.int n), some (.int c), u1, none] ∧ H' = upd H st (.lst [.int i, .int v'])) ?_ ?_
            · walk_at "rd"
              refine ite_dec (fun e3 => ?_) (fun e3 => ?_)
              · walk_at "rd"
                refine x_lenL (hsc.kp (kpu _)).sq ?_
                walk_at "rd"
                refine ite_dec (fun e4 => ?_) (fun e4 => ?_)
                · walk_at "rd"
                  exact ⟨c, _, hc, rfl, upd_upd⟩
                · exact ⟨_, _, hm0 _, rfl, rfl⟩
              · exact ite_bool (fun z => by cases z) (fun _ => ⟨_, _, hm0 _, rfl, rfl⟩)
            · rintro σ' H' ⟨v', u1, hv', rfl, rfl⟩
              walk_at "rd"
              exact ⟨i + 1, v', _, _, rfl, by omega, hv', upd_upd⟩
      · exact ⟨i, v, _, _, rfl, hi, hv, (upd_id hst).symm⟩
    · rintro σ' H' ⟨i', v', u1, u2, rfl, hi', hv', rfl⟩
      walk_at "rd"
      refine k _ _ (Int.emod_nonneg _ (by omega)) (Int.emod_lt_of_pos _ hn0) ⟨i', v' / n, ns, hi', Int.ediv_nonneg hv' (by omega), upd_same, hlen, ?_⟩ ?_
      · rw [upd_upd]; exact hsc.kp (kpu _)
      · rw [upd_upd]; exact kpu _
theorem Dr.kp {K : PySem.W.Frag} {F : Addr → Prop} {H H' : Hp} {st sc : Addr} (s : Kp F H H') (d : Dr K H st sc) (n : ¬ F st) : Dr K H' st sc := by
  obtain ⟨i, v, ns, hi, hv, hst, hl, hs⟩ := d
  exact ⟨i, v, ns, hi, hv, s.get hst n, hl, hs.kp s⟩
theorem Dr.ne {K : PySem.W.Frag} {H H0 : Hp} {st sc D : Addr} {o : HO} (d : H0 st = some o) (n : H0 D = none) : st ≠ D := ne_of_none d n
theorem Dr.off {K : PySem.W.Frag} {H : Hp} {st sc D : Addr} {o : HO} (d : Dr K H st sc) (n : st ≠ D) (m : ∀ u, H D = some u → ¬ Fix u) : Dr K (upd H D o) st sc := by
  obtain ⟨i, v, ns, hi, hv, hst, hl, hs⟩ := d
  refine ⟨i, v, ns, hi, hv, by rw [upd_ne n]; exact hst, hl, ?_⟩
  rcases hs with ⟨f, h⟩ | h
  · refine .inl ⟨f, ?_⟩
    rw [upd_ne fun e => m (.frz f (.lst (ns.map V.int))) (by rw [← e]; exact h) trivial]
    exact h
  · exact .inr h
theorem Dr.trk {K : PySem.W.Frag} {H : Hp} {st sc : Addr} (h : Dr K H st sc) : ∃ o, H st = some o := by
  obtain ⟨_, _, _, _, _, e, _⟩ := h
  exact ⟨_, e⟩
theorem Dr.new {K : PySem.W.Frag} {H : Hp} {st sc l : Addr} (h : Dr K H st sc) (n : H l = none) : l ≠ st := fun e => by
  obtain ⟨_, z⟩ := h.trk
  rw [← e, n] at z; cases z
end
section
variable {P : Program} {w : World} {K : PySem.W.Frag} {mg : Str → Option Value} {base : Heap}
def sp_write_number : Sp := fun vs H Q _ => ∃ (k : Nat) (n : Int), vs = [.int k, .int n] ∧ k ≤ 8 ∧ ∀ p H', H p = none → Kp F0 H H' → H' p = some (.lst ((wn k n).map V.int)) → Q (.ref p) H'
theorem ok_write_number (T : Txt K mg) : GF P w K mg base CX0 1 "write_number" sp_write_number := by
  obtain ⟨f, fd, F, gm⟩ := T.f_write_number
  refine ⟨f, fd, ["width", "number"], F.ok sc_write_number ?_ (fun cdv A outer s H vs Q E hr h => ?_), gm, F.kp, (F.binds (ps := ["width", "number"]) fun _ _ _ _ _ _ us hl => match us, hl with | [_, _], _ => rfl)⟩
  · rintro vs H Q E ⟨_, _, rfl, _⟩
    rfl
  · obtain ⟨n, z, rfl, hn, k⟩ := h
    refine ⟨_, (pss_one (ps_ret (pe_lc (own := [("k", 2)]) (g := (gName 2)) (tt := tYes) rfl sc_write_number.nd (pi_range1 (by rfl) T.z_range (pa_cons (pv 0) pa_nil)) (blkOk_by (N := ["width", "number", "k"]) (sc := defScope s_write_number) (by decide +kernel)) (fun _ _ _ _ _ => (pg_name (i := 2) sc_write_number.nd rfl (Or.inl rfl))) (fun _ _ _ _ _ => pts_nil) (fun _ _ _ _ _ => (pe_op o_and (pe_op op_shr (pv 1) (pe_op op_mul pe_int (pe_op op_sub (pe_op op_sub (pv 0) pe_int) (pv 2)))) pe_int))))), ?_⟩
    walk_at "cx"
    walk_at "rd"
    refine wlcP (ys := (wn n z).map V.int) Wk.rng (by rw [List.length_map, rgl_len, wn_len]; rfl) (by rw [rgl_len]; omega) (fun _ _ => trivial) (fun i x y H' R ex ey kp hR => ?_) (fun D H1 hD kp hDl => k D H1 hD kp hDl)
    obtain ⟨hi, rfl⟩ := rgl_at ex
    have hi' : i < n := hi
    rw [List.getElem?_map, wn_get hi'] at ey
    cases ey
    walk_at "rd"
    refine ⟨rfl, ?_⟩
    walk_at "rd"
    have e : 8 * ((n : Int) - 1 - (0 + (i : Nat))) = ((8 * (n - 1 - i) : Nat) : Int) := by omega
    have q := hR H' (Kp.refl _)
    rw [← pow_256] at q
    rw [e]
    exact q
def sp_read_number (K : PySem.W.Frag) : Sp := fun vs H Q _ => ∃ (a : Addr) (ds : List Int) (i k : Nat), vs = [.ref a, .int i, .int k] ∧ SqL K H a (ds.map V.int) ∧ ∀ H', Kp F0 H H' → Q (.int (rn ((ds.drop i).take k))) H'
theorem ok_read_number (T : Txt K mg) : GF P w K mg base CX0 1 "read_number" (sp_read_number K) := by
  obtain ⟨f, fd, F, gm⟩ := T.f_read_number
  refine ⟨f, fd, ["data", "place", "width"], F.ok sc_read_number ?_ (fun cdv A outer s H vs Q E hr h => ?_), gm, F.kp, (F.binds (ps := ["data", "place", "width"]) fun _ _ _ _ _ _ us hl => match us, hl with | [_, _, _], _ => rfl)⟩
  · rintro vs H Q E ⟨_, _, _, _, rfl, _⟩
    rfl
  · obtain ⟨a, ds, i, n, rfl, ha, k⟩ := h
    refine ⟨_, (pss_cons (ps_set (i := 3) sc_read_number.nd rfl (Or.inl rfl) pe_int)
      (pss_cons (ps_for PassesOwn.never rfl (pi_listK rfl (pe_slice (r := rSlL K) sl_list (pv 0) (po_some (pv 1)) (po_some (pe_op op_add (pv 1) (pv 2))))) (pg_name (i := 4) sc_read_number.nd rfl (Or.inl rfl)) (pss_one (ps_set (i := 3) sc_read_number.nd rfl (Or.inl rfl) (pe_op op_add (pe_op op_mul (pv 3) pe_int) (pv 4)))))
      (pss_one (ps_ret (pv 3))))), ?_⟩
    walk_at "cx"
    walk_at "rd"
    refine x_slL ha fun l H1 hl kp hl1 => ?_
    rw [cut_mid (by omega) (by omega), show ((i : Int) + (n : Int) - (i : Int)).toNat = n by omega, Int.toNat_natCast] at hl1
    walk_at "rd"
    refine wfor Wk.list (fun j σ H' => ∃ u, σ = [some (.ref a), some (.int i), some (.int n), some (.int (rn (((ds.drop i).take n).take j))), u] ∧ H1 = H') ⟨none, rfl, rfl⟩ (fun j σ H' ⟨u, _, e⟩ => by rw [← e]; exact SqL.of hl1) ?_ ?_
    · rintro j x σ H' ex ⟨u, rfl, rfl⟩
      rw [List.getElem?_map] at ex
      cases q : ((ds.drop i).take n)[j]? with
      | none => rw [q] at ex; cases ex
      | some z =>
        rw [q] at ex
        cases ex
        walk_at "rd"
        refine ⟨some (.int z), ?_, rfl⟩
        rw [List.take_succ (l := (ds.drop i).take n), q]
        show _ = [some (V.ref a), some (V.int i), some (V.int n), some (V.int (rn (((ds.drop i).take n).take j ++ [z]))), some (V.int z)]
        rw [rn_app]; rfl
    · rintro σ H' ⟨u, rfl, rfl⟩
      walk_at "rd"
      rw [List.length_map, List.take_length]
      exact k H1 kp
end
section
variable {P : Program} {w : World} {K : PySem.W.Frag} {mg : Str → Option Value} {base : Heap}
def sp_write_group (K : PySem.W.Frag) : Sp := fun vs H Q _ => ∃ O a ws g, vs = [.ref a] ∧ SqL K H a ws ∧ Paired (PAt O H) ws g ∧ Good g ∧ ∀ b H', H b = none → Kp F0 H H' → H' b = some (.lst ((wg g).map V.int)) → Q (.ref b) H'
theorem fm_le {g : List (Int × List Int)} (h : Good g) (i : Nat) : (wn 4 g.length ++ (g.take i).flatMap chunk).length ≤ 20000 := by
  rw [List.length_append, wn_len, fm_len (n := 260) fun q hq => chunk_len (h.q q (List.mem_of_mem_take hq)).2.2, List.length_take]
  have := h.n
  omega
theorem ok_write_group (T : Txt K mg) : GF P w K mg base CX0 2 "write_group" (sp_write_group K) := by
  obtain ⟨f, fd, F, gm⟩ := T.f_write_group
  obtain ⟨_, mg_NUMBER_SIZE⟩ := T.m_NUMBER_SIZE
  refine ⟨f, fd, ["pairs"], F.ok sc_write_group ?_ (fun cdv A outer s H vs Q E hr h => ?_), gm, F.kp, (F.binds (ps := ["pairs"]) fun _ _ _ _ _ _ us hl => match us, hl with | [_], _ => rfl)⟩
  · rintro vs H Q E ⟨_, _, _, _, rfl, _⟩
    rfl
  · obtain ⟨O, a, ws, g, rfl, ha, hp, hg, k⟩ := h
    have lw : ws.length = g.length := hp.length
    refine ⟨_, (pss_cons (ps_set (i := 1) sc_write_group.nd rfl (Or.inl rfl) (pe_g (ok_write_number T) (hr.mono (by decide)) pass0S (pa_cons (pe_glob (v := .int 4) rfl mg_NUMBER_SIZE ⟨_, rfl⟩) (pa_cons (pe_callB (r := rLenQ K) c_len (by rfl) T.z_len PySem.boot_len (pa_cons (pv 0) pa_nil)) pa_nil))))
      (pss_cons (ps_for PassesOwn.never rfl (pi_listK rfl (pv 0)) (pg_kT rfl (pg_tup (n := 2) rfl (pgs_cons (pg_name (i := 2) sc_write_group.nd rfl (Or.inl rfl)) (pgs_cons (pg_name (i := 3) sc_write_group.nd rfl (Or.inl rfl)) pgs_nil)))) (pss_cons (ps_expr (pe_kBM rfl (pe_bm PySem.F.plainAttrs_list PySem.F.slot_list_extend PySem.F.type_list_extend mt_extend (pv 1) (pa_cons (pe_g (ok_write_number T) (hr.mono (by decide)) pass0S (pa_cons (pe_glob (v := .int 4) rfl mg_NUMBER_SIZE ⟨_, rfl⟩) (pa_cons (pv 2) pa_nil))) pa_nil))))
      (pss_one (ps_expr (pe_kBM rfl (pe_bm PySem.F.plainAttrs_list PySem.F.slot_list_extend PySem.F.type_list_extend mt_extend (pv 1) (pa_cons (pv 3) pa_nil)))))))
      (pss_one (ps_ret (pv 1))))), ?_⟩
    walk_at "cx"
    walk_at "rd"
    rw [lw]
    refine ⟨4, g.length, rfl, by decide, fun d H1 hd k1 e1 => ?_⟩
    walk_at "rd"
    refine x_iL1 (k1.sqL ha id) ?_
    refine wfor Wk.list (fun i σ H' => ∃ u v, σ = [some (.ref a), some (.ref d), u, v] ∧ H' d = some (.lst ((wn 4 g.length ++ (g.take i).flatMap chunk).map V.int)) ∧ Kp F0 H H')
      ⟨none, none, rfl, by rw [e1]; simp, k1⟩ (fun i σ H' ⟨_, _, _, _, kk⟩ => kk.sqL ha id) ?_ ?_
    · rintro i x σ H2 ex ⟨u, v, rfl, ed, kk⟩
      obtain ⟨q, eq, t, l, rfl, ht, hl, _⟩ := pgt hp ex
      have ht2 := kk.tup ht
      have hl2 := kk.get hl id
      have l2 := (hg.q q (List.mem_of_getElem? eq)).2.2
      walk_at "rd"
      refine ⟨4, q.1, rfl, by decide, fun b H3 hb k3 e3 => ?_⟩
      have ed3 := k3.get ed id
      walk_at "rd"
      have l3 := fm_le hg i
      refine x_ext ed3 e3 (by rw [List.length_map, List.length_map, wn_len]; omega) fun H4 e4 k4 => ?_
      have ndl : d ≠ l := (ne_of_none hl hd).symm
      have hl4 := k4.get (k3.get hl2 id) ndl.symm
      walk_at "rd"
      refine x_ext e4 hl4 (by rw [List.length_append, List.length_map, List.length_map, List.length_map, wn_len]; omega) fun H5 e5 k5 => ?_
      refine ⟨_, _, rfl, ?_, (((kk.trans k3 fun _ z => z.elim).trans k4 fun x z => .inr (by rw [z]; exact hd)).trans k5 fun x z => .inr (by rw [z]; exact hd))⟩
      rw [e5, takes eq]
      unfold chunk
      simp only [List.map_append, List.append_assoc]
    · rintro σ H2 ⟨u, v, rfl, ed, kk⟩
      rw [lw, List.take_length] at ed
      walk_at "rd"
      exact k d H2 hd kk ed
def sp_read_groups (K : PySem.W.Frag) : Sp := fun vs H Q _ => ∃ a ds gs more j, vs = [.ref a] ∧ SqL K H a (ds.map V.int) ∧ ds = gs.flatMap wg ++ (wg more).take j ∧ j < (wg more).length ∧ (∀ g ∈ gs, Good g) ∧ Good more ∧ gs.length ≤ 100000 ∧
  ∀ r H', H r = none → Kp F0 H H' → GsAt (fun b => H b = none) H' r gs → Q (.ref r) H'
theorem ok_read_groups (T : Txt K mg) : GF P w K mg base CX0 2 "read_groups" (sp_read_groups K) := by
  obtain ⟨f, fd, F, gm⟩ := T.f_read_groups
  obtain ⟨_, mg_NUMBER_SIZE⟩ := T.m_NUMBER_SIZE
  obtain ⟨_, mg_PAGE_SIZE⟩ := T.m_PAGE_SIZE
  refine ⟨f, fd, ["data"], F.ok sc_read_groups ?_ (fun cdv A outer s H vs Q E hr h => ?_), gm, F.kp, (F.binds (ps := ["data"]) fun _ _ _ _ _ _ us hl => match us, hl with | [_], _ => rfl)⟩
  · rintro vs H Q E ⟨_, _, _, _, _, rfl, _⟩
    rfl
  · obtain ⟨a, ds, gs, more, j, rfl, ha, eds, hj, hgs, hm, lgs, k⟩ := h
    refine ⟨_, (pss_cons (ps_set (i := 1) sc_read_groups.nd rfl (Or.inl rfl) (pe_lst pa_nil))
      (pss_cons (ps_set (i := 2) sc_read_groups.nd rfl (Or.inl rfl) pe_int)
      (pss_cons (ps_while PassesOwn.never (pt_cmpR op_le (pe_op op_add (pv 2) (pe_glob (v := .int 4) rfl mg_NUMBER_SIZE ⟨_, rfl⟩)) (pe_callB (r := rLenQ K) c_len (by rfl) T.z_len PySem.boot_len (pa_cons (pv 0) pa_nil)) (nomark _)) (pss_cons (ps_set (i := 3) sc_read_groups.nd rfl (Or.inl rfl) (pe_g (ok_read_number T) (hr.mono (by decide)) pass0S (pa_cons (pv 0) (pa_cons (pv 2) (pa_cons (pe_glob (v := .int 4) rfl mg_NUMBER_SIZE ⟨_, rfl⟩) pa_nil)))))
      (pss_cons (ps_aug (i := 2) sc_read_groups.nd rfl (Or.inl rfl) (pe_glob (v := .int 4) rfl mg_NUMBER_SIZE ⟨_, rfl⟩) ip_add)
      (pss_cons (ps_if (pt_cmpR op_gt (pe_op op_add (pv 2) (pe_op op_mul (pv 3) (pe_op op_add (pe_glob (v := .int 4) rfl mg_NUMBER_SIZE ⟨_, rfl⟩) (pe_glob (v := .int 256) rfl mg_PAGE_SIZE ⟨_, rfl⟩)))) (pe_callB (r := rLenQ K) c_len (by rfl) T.z_len PySem.boot_len (pa_cons (pv 0) pa_nil)) (nomark _)) (pss_one (ps_ret (pv 1))) pss_nil)
      (pss_cons (ps_set (i := 4) sc_read_groups.nd rfl (Or.inl rfl) (pe_lst pa_nil))
      (pss_cons (ps_for PassesOwn.never rfl (pi_range1 (by rfl) T.z_range (pa_cons (pv 3) pa_nil)) (pg_name (i := 5) sc_read_groups.nd rfl (Or.inl rfl)) (pss_cons (ps_set (i := 6) sc_read_groups.nd rfl (Or.inl rfl) (pe_op op_add (pv 2) (pe_glob (v := .int 4) rfl mg_NUMBER_SIZE ⟨_, rfl⟩)))
      (pss_cons (ps_expr (pe_kBM rfl (pe_bm PySem.F.plainAttrs_list PySem.F.slot_list_append PySem.F.type_list_append mt_append (pv 4) (pa_cons (pe_tup (pa_cons (pe_g (ok_read_number T) (hr.mono (by decide)) pass0S (pa_cons (pv 0) (pa_cons (pv 2) (pa_cons (pe_glob (v := .int 4) rfl mg_NUMBER_SIZE ⟨_, rfl⟩) pa_nil)))) (pa_cons (pe_slice (r := rSlL K) sl_list (pv 0) (po_some (pv 6)) (po_some (pe_op op_add (pv 6) (pe_glob (v := .int 256) rfl mg_PAGE_SIZE ⟨_, rfl⟩)))) pa_nil))) pa_nil))))
      (pss_one (ps_set (i := 2) sc_read_groups.nd rfl (Or.inl rfl) (pe_op op_add (pv 6) (pe_glob (v := .int 256) rfl mg_PAGE_SIZE ⟨_, rfl⟩)))))))
      (pss_one (ps_expr (pe_kBM rfl (pe_bm PySem.F.plainAttrs_list PySem.F.slot_list_append PySem.F.type_list_append mt_append (pv 1) (pa_cons (pv 4) pa_nil)))))))))))
      (pss_one (ps_ret (pv 1)))))), ?_⟩
    walk_at "cx"
    walk_at "rd"
    refine x_newL fun r H1 hr1 k1 e1 => ?_
    walk_at "rd"
    refine x_wh (fun m σ H' => ∃ i vs u3 u4 u5 u6, m = gs.length - i ∧ i ≤ gs.length ∧ σ = [some (.ref a), some (.ref r), some (.int ((gs.take i).flatMap wg).length), u3, u4, u5, u6] ∧ H' r = some (.lst vs) ∧ vs.length = i ∧ Paired (GAt (fun b => H b = none ∧ b ≠ r) H') vs (gs.take i) ∧ Kp F0 H H')
      ⟨_, 0, [], none, none, none, none, rfl, Nat.zero_le _, rfl, e1, rfl, .nil, k1⟩ ?_
    rintro m σ H2 ⟨i, vs, u3, u4, u5, u6, rfl, hi, rfl, er, lvs, hv, kk⟩
    have fin : ∀ H3, Kp F0 H2 H3 → i = gs.length → Q (.ref r) H3 := fun H3 k3 e => by
      refine k r H3 hr1 (kk.trans k3 fun _ z => z.elim) ⟨vs, k3.get er id, hr1, ?_⟩
      rw [e, List.take_length] at hv
      exact hv.mono fun _ _ x => (x.own fun b _ o => o.1).kp k3 fun _ _ _ _ z => z
    generalize hA : (gs.take i).flatMap wg = A
    have ha2 := kk.sqL ha id
    by_cases hlt : i < gs.length
    · obtain ⟨g, eg⟩ : ∃ g, gs[i]? = some g := ⟨_, List.getElem?_eq_getElem hlt⟩
      have gg := hgs g (List.mem_of_getElem? eg)
      generalize hT : (gs.drop (i + 1)).flatMap wg ++ (wg more).take j = Tl
      have ed : ds = A ++ (wg g ++ Tl) := by rw [eds, flat_at _ eg, hA, hT]
      have ld : ds.length = A.length + (4 + 260 * g.length) + Tl.length := by rw [ed, List.length_append, List.length_append, wg_len gg]; omega
      have := gg.n
      walk_at "rd"
      rw [List.length_map]
      refine if_dtt (by omega) ?_
      refine ⟨_, fun _ _ z => z, ?_⟩
      walk_at "rd"
      refine ⟨a, ds, A.length, 4, rfl, ha2, fun H3 k3 => ?_⟩
      rw [rd_count gg ed]
      have ha3 := k3.sqL ha2 id
      have er3 := k3.get er id
      walk_at "rd"
      refine x_augv rfl ?_
      walk_at "rd"
      refine x_ipI ?_
      walk_at "rd"
      rw [List.length_map]
      refine if_dff (by omega) ?_
      walk_at "rd"
      refine x_newL fun p H4 hp4 k4 e4 => ?_
      have ha4 := k4.sqL ha3 id
      have er4 := k4.get er3 id
      have nrp : r ≠ p := ne_of_none er3 hp4
      walk_at "rd"
      refine wfor Wk.rng (fun t σ H' => ∃ ws u5 u6, σ = [some (.ref a), some (.ref r), some (.int ((A.length + 4 + 260 * t : Nat) : Int)), some (.int g.length), some (.ref p), u5, u6] ∧ H' p = some (.lst ws) ∧ ws.length = t ∧ Paired (PAt (fun b => (H b = none ∧ b ≠ r) ∧ b ≠ p) H') ws (g.take t) ∧ Kp F0 H3 H')
        ⟨[], u5, u6, by simp, e4, rfl, .nil, k4⟩ (fun _ _ _ _ => trivial) ?_ ?_
      · rintro t x σ H5 ex ⟨ws, u5, u6, rfl, ep, lt, hw, kk5⟩
        obtain ⟨ht, rfl⟩ := rgl_at ex
        have ht' : t < g.length := by have : t < (g.length : Int).toNat := ht; omega
        obtain ⟨q, eq⟩ : ∃ q, g[t]? = some q := ⟨_, List.getElem?_eq_getElem ht'⟩
        have rc := rd_chunk gg ed eq
        have ha5 := kk5.sqL ha3 id
        walk_at "rd"
        refine ⟨a, ds, A.length + 4 + 260 * t, 4, rfl, ha5, fun H6 k6 => ?_⟩
        rw [rc.1]
        walk_at "rd"
        refine x_slL (k6.sqL ha5 id) fun l H7 hl k7 e7 => ?_
        rw [cut_mid (by omega) (by omega), show ((((A.length + 4 + 260 * t : Nat) : Int) + 4).toNat) = A.length + 4 + 260 * t + 4 by omega, show ((((A.length + 4 + 260 * t : Nat) : Int) + 4 + 256 - (((A.length + 4 + 260 * t : Nat) : Int) + 4)).toNat) = 256 by omega, rc.2] at e7
        walk_at "rd"
        refine x_newT fun tp H8 htp k8 e8 => ?_
        have k58 : Kp F0 H5 H8 := (k6.trans k7 fun _ z => z.elim).trans k8 fun _ z => z.elim
        have ep8 := k58.get ep id
        walk_at "rd"
        refine x_app ep8 (by have := gg.n; omega) fun H9 e9 k9 => ?_
        walk_at "rd"
        have k35 : Kp F0 H3 H7 := (kk5.trans k6 fun _ z => z.elim).trans k7 fun _ z => z.elim
        have hl3 : H3 l = none := kk5.free (k6.free hl id) id
        have er5 := (kk5.trans k6 fun _ z => z.elim).get er3 id
        have ep6 := k6.get ep id
        have nlr : l ≠ r := (ne_of_none er5 hl).symm
        have nlp : l ≠ p := (ne_of_none ep6 hl).symm
        refine ⟨ws ++ [.ref tp], some (.int (0 + (t : Int))), some (.int (((A.length + 4 + 260 * t : Nat) : Int) + 4)), ?_, e9, by rw [List.length_append, lt]; rfl, ?_, (kk5.trans k58 fun _ z => z.elim).trans k9 fun x z => .inr (by rw [z]; exact hp4)⟩
        · rw [show (((A.length + 4 + 260 * (t + 1) : Nat)) : Int) = ((A.length + 4 + 260 * t : Nat) : Int) + 4 + 256 by omega]; rfl
        · rw [List.take_succ, eq]
          refine Paired.snoc (hw.mono fun _ _ x => (x.kp k58 fun _ _ _ _ z => z).kp k9 fun b _ _ o z => o.2 z) ⟨tp, l, rfl, k9.tup e8, k9.get (k8.get e7 id) nlp, ⟨kk.free (k3.free hl3 id) id, nlr⟩, nlp⟩
      · rintro σ H5 ⟨ws, u5, u6, rfl, ep, lt, hw, kk5⟩
        have er5 := kk5.get er3 id
        have hlen : (rgl 0 (g.length : Int).toNat).length = g.length := by rw [rgl_len]; omega
        rw [hlen] at lt hw
        rw [hlen]
        rw [List.take_length] at hw
        walk_at "rd"
        refine x_app er5 (by omega) fun H6 e6 k6 => ?_
        have k26 : Kp (F1 r) H2 H6 := ((k3.mono fun _ z => z.elim).trans kk5 fun _ z => z.elim).trans k6 fun _ z => .inl z
        have hpH : H p = none := kk.free (k3.free hp4 id) id
        refine ⟨gs.length - (i + 1), by omega, i + 1, vs ++ [.ref p], some (.int g.length), some (.ref p), u5, u6, rfl, hlt, ?_, e6, by rw [List.length_append, lvs]; rfl, ?_, kk.trans k26 fun x z => .inr (by rw [z]; exact hr1)⟩
        · rw [takes eg, hA, List.length_append, wg_len gg, show ((A.length + (4 + 260 * g.length) : Nat) : Int) = ((A.length + 4 + 260 * g.length : Nat) : Int) by omega]
        · rw [List.take_succ, eg]
          refine Paired.snoc (hv.mono fun _ _ x => x.kp k26 fun b _ _ o z => o.2 z) ⟨p, ws, rfl, k6.get ep nrp.symm, ⟨hpH, nrp.symm⟩, hw.mono fun _ _ x => (x.own fun b _ o => o.1).kp k6 fun b _ _ o z => o.2 z⟩
    · have ei : i = gs.length := by omega
      have eA : gs.flatMap wg = A := by rw [← hA, ei, List.take_length]
      have ed : ds = A ++ (wg more).take j := by rw [eds, eA]
      have ld : ds.length = A.length + j := by rw [ed, List.length_append, List.length_take]; omega
      have lm := wg_len hm
      walk_at "rd"
      rw [List.length_map]
      by_cases h4 : 4 ≤ j
      · refine if_dtt (by omega) ?_
        refine ⟨_, fun _ _ z => z, ?_⟩
        walk_at "rd"
        refine ⟨a, ds, A.length, 4, rfl, ha2, fun H3 k3 => ?_⟩
        rw [rd_part hm ed h4]
        have ha3 := k3.sqL ha2 id
        walk_at "rd"
        refine x_augv rfl ?_
        walk_at "rd"
        refine x_ipI ?_
        walk_at "rd"
        rw [List.length_map]
        refine if_dtt (by omega) ?_
        walk_at "rd"
        exact fin H3 k3 ei
      · refine if_dff (by omega) ?_
        walk_at "rd"
        exact fin H2 (Kp.refl _) ei
end
section
variable {P : Program} {w : World} {K : PySem.W.Frag} {mg : Str → Option Value} {base : Heap}
def sp__law_content (K : PySem.W.Frag) : Sp := fun vs H Q _ => ∃ st sc, vs = [.ref st, .ref sc] ∧ Dr K H st sc ∧ ∀ (l : Addr) (H' : Hp) (ds : List Int), ds.length = 256 → H l = none → H' l = some (.lst (ds.map V.int)) → Dr K H' st sc → Kp (F1 st) H H' → Q (.ref l) H'
theorem ok__law_content (T : Txt K mg) : GF P w K mg base CX0 2 "_law_content" (sp__law_content K) := by
  obtain ⟨f, fd, F, gm⟩ := T.f__law_content
  refine ⟨f, fd, ["_law_state", "_law_script"], F.ok sc__law_content ?_ (fun cdv A outer s H vs Q E hr h => ?_), gm, F.kp, (F.binds (ps := ["_law_state", "_law_script"]) fun _ _ _ _ _ _ us hl => match us, hl with | [_, _], _ => rfl)⟩
  · rintro vs H Q E ⟨_, _, rfl, _⟩
    rfl
  · obtain ⟨st, sc, rfl, dr, k⟩ := h
    refine ⟨_, (pss_one (ps_ret (pe_op op_cat (pe_op op_cat (pe_op op_rep (pe_lst (pa_cons (pe_g (ok__law_draw T) (hr.mono (by decide)) pass0S (pa_cons (pv 0) (pa_cons (pv 1) (pa_cons pe_int pa_nil)))) pa_nil)) pe_int) (pe_op op_rep (pe_lst (pa_cons (pe_g (ok__law_draw T) (hr.mono (by decide)) pass0S (pa_cons (pv 0) (pa_cons (pv 1) (pa_cons pe_int pa_nil)))) pa_nil)) pe_int)) (pe_op op_rep (pe_lst (pa_cons (pe_g (ok__law_draw T) (hr.mono (by decide)) pass0S (pa_cons (pv 0) (pa_cons (pv 1) (pa_cons pe_int pa_nil)))) pa_nil)) pe_int)))), ?_⟩
    walk_at "cx"
    walk_at "rd"
    refine ⟨st, sc, 256, rfl, by decide, by decide, dr, fun a H1 _ _ dr1 k1 => ?_⟩
    walk_at "rd"
    refine x_newL fun p2 H2 h2 k2 e2 => ?_
    walk_at "rd"
    refine x_rep e2 (by decide) (by decide) fun p3 H3 h3 k3 e3 => ?_
    have dr3 := dr1.kp (k2.trans k3 fun _ z => z.elim) id
    have n3 := (dr1.kp k2 id).new h3
    walk_at "rd"
    refine ⟨st, sc, 256, rfl, by decide, by decide, dr3, fun b H4 _ _ dr4 k4 => ?_⟩
    have e34 := k4.get e3 n3
    walk_at "rd"
    refine x_newL fun p5 H5 h5 k5 e5 => ?_
    walk_at "rd"
    refine x_rep e5 (by decide) (by decide) fun p6 H6 h6 k6 e6 => ?_
    walk_at "rd"
    refine x_catL (k6.get (k5.get e34 id) id) e6 (by rw [List.length_replicate, List.length_replicate]; decide) fun p7 H7 h7 k7 e7 => ?_
    have k47 : Kp F0 H4 H7 := (k5.trans k6 fun _ z => z.elim).trans k7 fun _ z => z.elim
    have dr7 := dr4.kp k47 id
    have n7 := (dr4.kp (k5.trans k6 fun _ z => z.elim) id).new h7
    walk_at "rd"
    refine ⟨st, sc, 256, rfl, by decide, by decide, dr7, fun d H8 _ _ dr8 k8 => ?_⟩
    have e78 := k8.get e7 n7
    walk_at "rd"
    refine x_newL fun p9 H9 h9 k9 e9 => ?_
    walk_at "rd"
    refine x_rep e9 (by decide) (by decide) fun p10 H10 h10 k10 e10 => ?_
    refine x_catL (k10.get (k9.get e78 id) id) e10 (by rw [List.length_append, List.length_replicate, List.length_replicate, List.length_replicate]; decide) fun p11 H11 h11 k11 e11 => ?_
    have k811 : Kp F0 H8 H11 := (k9.trans k10 fun _ z => z.elim).trans k11 fun _ z => z.elim
    have kz : Kp (F1 st) H H11 := ((((k1.trans (k2.trans k3 fun _ z => z.elim) fun _ z => z.elim).trans k4 fun _ z => .inl z).trans k47 fun _ z => z.elim).trans k8 fun _ z => .inl z).trans k811 fun _ z => z.elim
    have dr10 := dr8.kp (k9.trans k10 fun _ z => z.elim) id
    have n11 := dr10.new h11
    have f11 : H p11 = none := ((((k1.trans (k2.trans k3 fun _ z => z.elim) fun _ z => z.elim).trans k4 fun _ z => .inl z).trans k47 fun _ z => z.elim).trans k8 fun _ z => .inl z).free (k9.free (k10.free h11 id) id) n11
    refine k p11 H11 (List.replicate 100 a ++ List.replicate 100 b ++ List.replicate 56 d) (by simp only [List.length_append, List.length_replicate]) f11 ?_ (dr10.kp k11 id) kz
    rw [e11]; simp only [List.map_append, List.map_replicate]; rfl
def sp__law_group (K : PySem.W.Frag) : Sp := fun vs H Q _ => ∃ st sc, vs = [.ref st, .ref sc] ∧ Dr K H st sc ∧ ∀ a H' g, Good g → g.length ≤ 3 → GAt (fun b => H b = none) H' (.ref a) g → Dr K H' st sc → Kp (F1 st) H H' → Q (.ref a) H'
theorem ok__law_group (T : Txt K mg) : GF P w K mg base CX0 3 "_law_group" (sp__law_group K) := by
  obtain ⟨f, fd, F, gm⟩ := T.f__law_group
  refine ⟨f, fd, ["_law_state", "_law_script"], F.ok sc__law_group ?_ (fun cdv A outer s H vs Q E hr h => ?_), gm, F.kp, (F.binds (ps := ["_law_state", "_law_script"]) fun _ _ _ _ _ _ us hl => match us, hl with | [_, _], _ => rfl)⟩
  · rintro vs H Q E ⟨_, _, rfl, _⟩
    rfl
  · obtain ⟨st, sc, rfl, dr, k⟩ := h
    refine ⟨_, (pss_cons (ps_set (i := 2) sc__law_group.nd rfl (Or.inl rfl) (pe_lst pa_nil))
      (pss_cons (ps_for PassesOwn.never rfl (pi_range1 (by rfl) T.z_range (pa_cons (pe_g (ok__law_draw T) (hr.mono (by decide)) pass0S (pa_cons (pv 0) (pa_cons (pv 1) (pa_cons pe_int pa_nil)))) pa_nil)) (pg_name (i := 3) sc__law_group.nd rfl (Or.inl rfl)) (pss_cons (ps_set (i := 4) sc__law_group.nd rfl (Or.inl rfl) (pe_ix (r := rIxL K) ix_list (pe_lst (pa_cons pe_int (pa_cons pe_int (pa_cons pe_int (pa_cons (pe_g (ok__law_draw T) (hr.mono (by decide)) pass0S (pa_cons (pv 0) (pa_cons (pv 1) (pa_cons pe_int pa_nil)))) pa_nil))))) (pe_g (ok__law_draw T) (hr.mono (by decide)) pass0S (pa_cons (pv 0) (pa_cons (pv 1) (pa_cons pe_int pa_nil)))) (fun _ _ => rfl)))
      (pss_one (ps_expr (pe_kBM rfl (pe_bm PySem.F.plainAttrs_list PySem.F.slot_list_append PySem.F.type_list_append mt_append (pv 2) (pa_cons (pe_tup (pa_cons (pv 4) (pa_cons (pe_g (ok__law_content T) (hr.mono (by decide)) pass0S (pa_cons (pv 0) (pa_cons (pv 1) pa_nil))) pa_nil))) pa_nil)))))))
      (pss_one (ps_ret (pv 2))))), ?_⟩
    walk_at "cx"
    walk_at "rd"
    refine x_newL fun p H1 hp k1 e1 => ?_
    have dr1 := dr.kp k1 id
    have np := dr.new hp
    walk_at "rd"
    refine ⟨st, sc, 4, rfl, by decide, by decide, dr1, fun n H2 n0 n1 dr2 k2 => ?_⟩
    walk_at "rd"
    refine wfor Wk.rng (fun i σ H' => ∃ ws g u3 u4, σ = [some (.ref st), some (.ref sc), some (.ref p), u3, u4] ∧ H' p = some (.lst ws) ∧ g.length = i ∧ (∀ q ∈ g, 0 ≤ q.1 ∧ q.1 < 256 ^ 4 ∧ q.2.length = 256) ∧ Paired (PAt (fun b => H b = none ∧ b ≠ p) H') ws g ∧ Dr K H' st sc ∧ Kp (F1 st) H H')
      ⟨[], [], none, none, rfl, k2.get e1 np, rfl, fun _ z => (by cases z), .nil, dr2, (k1.mono fun _ z => z.elim).trans k2 fun _ z => .inl z⟩ (fun _ _ _ _ => trivial) ?_ ?_
    · rintro i x σ H3 ex ⟨ws, g, u3, u4, rfl, ep, lg, gq, hw, dr3, kk⟩
      obtain ⟨hi, rfl⟩ := rgl_at ex
      have hi3 : i < 3 := by have : i < n.toNat := hi; omega
      walk_at "rd"
      refine ⟨st, sc, 70000, rfl, by decide, by decide, dr3, fun z H4 z0 z1 dr4 k4 => ?_⟩
      have ep4 := k4.get ep np
      walk_at "rd"
      refine x_newL fun nl H5 hnl k5 e5 => ?_
      have nnl := dr4.new hnl
      walk_at "rd"
      refine ⟨st, sc, 4, rfl, by decide, by decide, dr4.kp k5 id, fun y H6 y0 y1 dr6 k6 => ?_⟩
      have e6 := k6.get e5 nnl
      have ep6 := k6.get (k5.get ep4 id) np
      obtain ⟨m, m0, m1, hm⟩ : ∃ m : Int, 0 ≤ m ∧ m < 256 ^ 4 ∧ atI [V.int 0, .int 1, .int 4294967295, .int z] y = some (.int m) := by
        rcases (by omega : y = 0 ∨ y = 1 ∨ y = 2 ∨ y = 3) with rfl | rfl | rfl | rfl
        · exact ⟨0, by decide, by decide, rfl⟩
        · exact ⟨1, by decide, by decide, rfl⟩
        · exact ⟨4294967295, by decide, by decide, rfl⟩
        · exact ⟨z, z0, by omega, rfl⟩
      walk_at "rd"
      refine ⟨st, sc, rfl, dr6, fun l H7 ds lds hl e7 dr7 k7 => ?_⟩
      have k36 : Kp (F1 st) H3 H6 := (k4.trans k5 fun _ z => z.elim).trans k6 fun _ z => .inl z
      have nlp : l ≠ p := (ne_of_none ep6 hl).symm
      have ep7 := k7.get ep6 np
      have nls := dr6.new hl
      walk_at "rd"
      refine x_newT fun t H8 ht k8 e8 => ?_
      have ep8 := k8.get ep7 id
      walk_at "rd"
      have lw : ws.length = g.length := hw.length
      refine x_app ep8 (by omega) fun H9 e9 k9 => ?_
      have k38 : Kp (F1 st) H3 H8 := (k36.trans k7 fun _ z => .inl z).trans k8 fun _ z => z.elim
      have fl : H l = none := (kk.trans k36 fun _ z => .inl z).free hl nls
      refine ⟨ws ++ [.ref t], g ++ [(m, ds)], _, _, rfl, e9, by rw [List.length_append, lg]; rfl, ?_, ?_, (dr7.kp k8 id).kp k9 np.symm, (kk.trans k38 fun _ z => .inl z).trans k9 fun x z => .inr (by rw [z]; exact hp)⟩
      · intro q hq
        rcases List.mem_append.mp hq with h | h
        · exact gq q h
        · rw [List.mem_singleton.mp h]; exact ⟨m0, m1, lds⟩
      · refine Paired.snoc (hw.mono fun _ _ x => (x.kp k38 fun b o hb ob z => ?_).kp k9 fun b _ _ o z => o.2 z) ⟨t, l, rfl, k9.tup e8, k9.get (k8.get e7 id) nlp, fl, nlp⟩
        obtain ⟨_, hs⟩ := dr.trk
        rw [z, hs] at ob; cases ob.1
    · rintro σ H3 ⟨ws, g, u3, u4, rfl, ep, lg, gq, hw, dr3, kk⟩
      have lg' : g.length ≤ 3 := by rw [lg, rgl_len]; omega
      walk_at "rd"
      exact k p H3 g ⟨by omega, gq⟩ lg' ⟨p, ws, rfl, ep, hp, hw.mono fun _ _ x => x.own fun b _ o => o.1⟩ dr3 kk
def sp__law_bytes (K : PySem.W.Frag) : Sp := fun vs H Q _ => ∃ O a g, vs = [.ref a] ∧ GAt O H (.ref a) g ∧ Good g ∧ g.length ≤ 3 ∧ ∀ b H', H b = none → Kp F0 H H' → H' b = some (.lst ((wg g).map V.int)) → Q (.ref b) H'
theorem ok__law_bytes (T : Txt K mg) : GF P w K mg base CX0 1 "_law_bytes" (sp__law_bytes K) := by
  obtain ⟨f, fd, F, gm⟩ := T.f__law_bytes
  refine ⟨f, fd, ["_law_pairs"], F.ok sc__law_bytes ?_ (fun cdv A outer s H vs Q E hr h => ?_), gm, F.kp, (F.binds (ps := ["_law_pairs"]) fun _ _ _ _ _ _ us hl => match us, hl with | [_], _ => rfl)⟩
  · rintro vs H Q E ⟨_, _, _, rfl, _⟩
    rfl
  · obtain ⟨O, a, g, rfl, ⟨_, ws, ea, ha, _, hp⟩, hg, l3, k⟩ := h
    cases ea
    have lw : ws.length = g.length := hp.length
    refine ⟨_, (pss_cons (ps_set (i := 1) sc__law_bytes.nd rfl (Or.inl rfl) (pe_lst (pa_cons pe_int (pa_cons pe_int (pa_cons pe_int (pa_cons (pe_callB (r := rLenQ K) c_len (by rfl) T.z_len PySem.boot_len (pa_cons (pv 0) pa_nil)) pa_nil))))))
      (pss_cons (ps_for PassesOwn.never rfl (pi_listK rfl (pv 0)) (pg_kT rfl (pg_tup (n := 2) rfl (pgs_cons (pg_name (i := 2) sc__law_bytes.nd rfl (Or.inl rfl)) (pgs_cons (pg_name (i := 3) sc__law_bytes.nd rfl (Or.inl rfl)) pgs_nil)))) (pss_one (ps_set (i := 1) sc__law_bytes.nd rfl (Or.inl rfl) (pe_op op_cat (pe_op op_cat (pv 1) (pe_lst (pa_cons (pe_op op_shr (pv 2) pe_int) (pa_cons (pe_op o_and (pe_op op_shr (pv 2) pe_int) pe_int) (pa_cons (pe_op o_and (pe_op op_shr (pv 2) pe_int) pe_int) (pa_cons (pe_op o_and (pv 2) pe_int) pa_nil)))))) (pv 3)))))
      (pss_one (ps_ret (pv 1))))), ?_⟩
    walk_at "cx"
    walk_at "rd"
    rw [lw]
    refine x_newL fun d H1 hd k1 e1 => ?_
    have e1' : H1 d = some (.lst ((wn 4 g.length).map V.int)) := by
      rw [e1, ← wn4 (by omega) (by omega)]
      have a1 : (g.length : Int) / 2 ^ 24 = 0 := by omega
      have a2 : (g.length : Int) / 2 ^ 16 % 256 = 0 := by omega
      have a3 : (g.length : Int) / 2 ^ 8 % 256 = 0 := by omega
      have a4 : (g.length : Int) % 256 = g.length := by omega
      rw [a1, a2, a3, a4]; rfl
    have ha1 := k1.get ha id
    walk_at "rd"
    refine wfor Wk.list (fun i σ H' => ∃ d u v, σ = [some (.ref a), some (.ref d), u, v] ∧ H' d = some (.lst ((wn 4 g.length ++ (g.take i).flatMap chunk).map V.int)) ∧ H d = none ∧ Kp F0 H H')
      ⟨d, none, none, rfl, by rw [e1']; simp, hd, k1⟩ (fun i σ H' ⟨_, _, _, _, _, _, kk⟩ => SqL.of (kk.get ha id)) ?_ ?_
    · rintro i x σ H2 ex ⟨d, u, v, rfl, ed, hd, kk⟩
      obtain ⟨q, eq, t, l, rfl, ht, hl, _⟩ := pgt hp ex
      have ht2 := kk.tup ht
      have hl2 := kk.get hl id
      have hq := hg.q q (List.mem_of_getElem? eq)
      walk_at "rd"
      refine x_newL fun b H3 hb k3 e3 => ?_
      have e3' : H3 b = some (.lst ((wn 4 q.1).map V.int)) := by rw [e3, ← wn4 hq.1 hq.2.1]; rfl
      have ed3 := k3.get ed id
      have lf := fm_le hg i
      walk_at "rd"
      refine x_catL ed3 e3' (by rw [List.length_map, List.length_map, wn_len, sizeLine_eq]; omega) fun e H4 he k4 e4 => ?_
      have hl4 := k4.get (k3.get hl2 id) id
      walk_at "rd"
      refine x_catL e4 hl4 (by rw [List.length_append, List.length_map, List.length_map, List.length_map, wn_len, sizeLine_eq]; omega) fun e' H5 he' k5 e5 => ?_
      have k25 : Kp F0 H2 H4 := k3.trans k4 fun _ z => z.elim
      refine ⟨e', _, _, rfl, ?_, (kk.trans k25 fun _ z => z.elim).free he' id, (kk.trans k25 fun _ z => z.elim).trans k5 fun _ z => z.elim⟩
      rw [e5, takes eq]
      unfold chunk
      simp only [List.map_append, List.append_assoc]
    · rintro σ H2 ⟨d, u, v, rfl, ed, hd, kk⟩
      rw [lw, List.take_length] at ed
      walk_at "rd"
      exact k d H2 hd kk ed
end
section
variable {P : Program} {w : World} {K : PySem.W.Frag} {mg : Str → Option Value} {base : Heap}
theorem wgs_len {gs : List (List (Int × List Int))} (h : ∀ g ∈ gs, Good g ∧ g.length ≤ 3) : (gs.flatMap wg).length ≤ 784 * gs.length := by
  induction gs with
  | nil => exact Nat.le_refl _
  | cons g gs ih =>
    have h1 := ih fun x hx => h x (List.mem_cons_of_mem _ hx)
    have h2 := h g (by simp)
    rw [List.flatMap_cons, List.length_append, wg_len h2.1, List.length_cons]
    omega
/-- a found page: a list of ints, not empty -/
def PgM (O : Addr → Prop) (B : Nat) (H : Hp) (v : V) : Prop := ∃ t n l ns, v = .ref t ∧ H t = some (.tup [.int n, .ref l]) ∧ H l = some (.lst (ns.map V.int)) ∧ ns ≠ [] ∧ ns.length ≤ B ∧ O l
theorem nref {H : Hp} {a l : Addr} {ws : List V} {ns : List Int} (ha : H a = some (.lst ws)) (hw : ∀ y ∈ ws, ∃ t, y = .ref t) (hl : H l = some (.lst (ns.map V.int))) (nn : ns ≠ []) : a ≠ l := fun z => by
  rw [z, hl] at ha
  cases ha
  cases ns with
  | nil => exact nn rfl
  | cons n ns =>
    obtain ⟨t, e⟩ := hw (.int n) (by simp)
    cases e
/-- the found groups, while numbers are appended to their pages -/
def FM (O : Addr → Prop) (B : Nat) (H : Hp) (r : Addr) (vs : List V) : Prop := H r = some (.lst vs) ∧ ∀ x ∈ vs, ∃ a ws, x = .ref a ∧ H a = some (.lst ws) ∧ ws.length ≤ 3 ∧ ∀ y ∈ ws, PgM O B H y
section
variable {O : Addr → Prop} {B C : Nat} {H H' : Hp} {l r : Addr} {ns : List Int} {y : V} {vs : List V}
theorem PgM.app (h : PgM O B H y) (hl : H l = some (.lst (ns.map V.int))) (nn : ns ≠ []) (ln : ns.length ≤ B) (k : Kp (F1 l) H H') (e : H' l = some (.lst (ns.map V.int ++ [.int 1]))) : PgM O (B + 1) H' y := by
  obtain ⟨t, n, l', ns', rfl, ht, hl', nn', ln', o⟩ := h
  by_cases z : l' = l
  · subst z
    exact ⟨t, n, l', ns ++ [1], rfl, k.tup ht, by rw [e, List.map_append]; rfl, by simp, by rw [List.length_append]; show ns.length + 1 ≤ B + 1; omega, o⟩
  · exact ⟨t, n, l', ns', rfl, k.tup ht, k.get hl' z, nn', by omega, o⟩
theorem FM.app (h : FM O B H r vs) (hl : H l = some (.lst (ns.map V.int))) (nn : ns ≠ []) (ln : ns.length ≤ B) (k : Kp (F1 l) H H') (e : H' l = some (.lst (ns.map V.int ++ [.int 1]))) : FM O (B + 1) H' r vs := by
  refine ⟨k.get h.1 (nref h.1 (fun y hy => ?_) hl nn), fun x hx => ?_⟩
  · obtain ⟨a, ws, e, _⟩ := h.2 y hy
    exact ⟨a, e⟩
  · obtain ⟨a, ws, rfl, ha, lw, hw⟩ := h.2 x hx
    exact ⟨a, ws, rfl, k.get ha (nref ha (fun y hy => by obtain ⟨t, _, _, _, e, _⟩ := hw y hy; exact ⟨t, e⟩) hl nn), lw, fun y hy => (hw y hy).app hl nn ln k e⟩
theorem FM.le (h : FM O B H r vs) (n : B ≤ C) : FM O C H r vs := by
  refine ⟨h.1, fun x hx => ?_⟩
  obtain ⟨a, ws, rfl, ha, lw, hw⟩ := h.2 x hx
  refine ⟨a, ws, rfl, ha, lw, fun y hy => ?_⟩
  obtain ⟨t, n', l, ns, rfl, ht, hl, nn, ln, o⟩ := hw y hy
  exact ⟨t, n', l, ns, rfl, ht, hl, nn, by omega, o⟩
end
theorem ok_law {f : Addr} {fd : FuncData} (F : Fun K "law" "law" s_law f fd) (T : Txt K mg) : FnOk P w K mg base CX0 4 f fd ["_law_script"] (sp_law K) := by
  refine F.ok sc_law ?_ (fun cdv A outer s H vs Q E hr h => ?_)
  · rintro vs H Q E ⟨_, _, rfl, _⟩
    rfl
  · obtain ⟨sc, ns, rfl, hsc, hlen, k⟩ := h
    refine ⟨_, (pss_cons (ps_set (i := 1) sc_law.nd rfl (Or.inr rfl) (pe_lst (pa_cons pe_int (pa_cons pe_int pa_nil))))
      (pss_cons (ps_setLc (i := 2) (own := [("_law_k", 10)]) (g := (gName 10)) (tt := tYes) rfl sc_law.nd rfl rfl (sw_true rfl rfl rfl (by decide +kernel)) (pi_range1 (by rfl) T.z_range (pa_cons (pe_g (ok__law_draw T) (hr.mono (by decide)) pass0S (pa_cons (pv 1) (pa_cons (pv 0) (pa_cons pe_int pa_nil)))) pa_nil)) (blkOk_by (N := ["_law_script", "_law_state", "_law_groups", "_law_data", "_law_pairs", "_law_handed", "_law_found", "_law_more", "_law_kept", "_law_pair", "_law_k"]) (sc := defScope s_law) (by decide +kernel)) (fun _ _ _ _ _ => (pg_name (i := 10) sc_law.nd rfl (Or.inl rfl))) (fun _ _ _ _ _ => pts_nil) (fun _ _ _ _ _ => (pe_g (ok__law_group T) (hr.mono (by decide)) pass0S (pa_cons (pv 1) (pa_cons (pv 0) pa_nil)))))
      (pss_cons (ps_set (i := 3) sc_law.nd rfl (Or.inl rfl) (pe_lst pa_nil))
      (pss_cons (ps_for PassesOwn.never rfl (pi_listK rfl (pv 2)) (pg_name (i := 4) sc_law.nd rfl (Or.inl rfl)) (pss_cons (ps_set (i := 5) sc_law.nd rfl (Or.inl rfl) (pe_callTy (r := rLstQ K) c_list (by rfl) T.z_list (by decide +kernel) (pa_cons (pv 4) pa_nil)))
      (pss_cons (ps_set (i := 6) sc_law.nd rfl (Or.inl rfl) (pe_g (ok_write_group T) (hr.mono (by decide)) pass0S (pa_cons (pv 5) pa_nil)))
      (pss_cons (ps_if (PW.pt (pw_or (pt_cmpR (r := rNeD K) (op_neD hr.units) (pv 6) (pe_g (ok__law_bytes T) (hr.mono (by decide)) pass0S (pa_cons (pv 4) pa_nil)) (nomark _)) (pw_or1 (pt_cmpR (r := rNeD K) (op_neD hr.units) (pv 5) (pv 4) (nomark _))))) (pss_one (ps_ret pe_bl)) pss_nil)
      (pss_one (ps_set (i := 3) sc_law.nd rfl (Or.inl rfl) (pe_op op_cat (pv 3) (pv 6))))))))
      (pss_cons (ps_set (i := 7) sc_law.nd rfl (Or.inl rfl) (pe_g (ok__law_bytes T) (hr.mono (by decide)) pass0S (pa_cons (pe_g (ok__law_group T) (hr.mono (by decide)) pass0S (pa_cons (pv 1) (pa_cons (pv 0) pa_nil))) pa_nil)))
      (pss_cons (ps_set (i := 3) sc_law.nd rfl (Or.inl rfl) (pe_op op_cat (pv 3) (pe_slice (r := rSlL K) sl_list (pv 7) po_none (po_some (pe_g (ok__law_draw T) (hr.mono (by decide)) pass0S (pa_cons (pv 1) (pa_cons (pv 0) (pa_cons (pe_callB (r := rLenQ K) c_len (by rfl) T.z_len PySem.boot_len (pa_cons (pv 7) pa_nil)) pa_nil))))))))
      (pss_cons (ps_set (i := 8) sc_law.nd rfl (Or.inl rfl) (pe_callTy (r := rLstQ K) c_list (by rfl) T.z_list (by decide +kernel) (pa_cons (pv 3) pa_nil)))
      (pss_cons (ps_set (i := 6) sc_law.nd rfl (Or.inl rfl) (pe_g (ok_read_groups T) (hr.mono (by decide)) pass0S (pa_cons (pv 3) pa_nil)))
      (pss_cons (ps_if (PW.pt (pw_or (pt_not (pt_val (pe_callB (r := rIsi K) call_isi (by rfl) T.z_isinstance (by decide +kernel) (pa_cons (pv 6) (pa_cons (pe_bltn (v := .ty "list") (by rfl) T.z_list (by decide +kernel) rfl) pa_nil))))) (pw_or (pt_cmpR (r := rNeD K) (op_neD hr.units) (pv 6) (pv 2) (nomark _)) (pw_or1 (pt_cmpR (r := rNeD K) (op_neD hr.units) (pv 3) (pv 8) (nomark _)))))) (pss_one (ps_ret pe_bl)) pss_nil)
      (pss_cons (ps_for PassesOwn.never rfl (pi_listK rfl (pv 6)) (pg_name (i := 4) sc_law.nd rfl (Or.inl rfl)) (pss_one (ps_for PassesOwn.never rfl (pi_listK rfl (pv 4)) (pg_name (i := 9) sc_law.nd rfl (Or.inl rfl)) (pss_cons (ps_if (PW.pt (pw_or (pt_not (pt_val (pe_callB (r := rIsi K) call_isi (by rfl) T.z_isinstance (by decide +kernel) (pa_cons (pv 9) (pa_cons (pe_bltn (v := .ty "tuple") (by rfl) T.z_tuple (by decide +kernel) rfl) pa_nil))))) (pw_or1 (pt_not (pt_val (pe_callB (r := rIsi K) call_isi (by rfl) T.z_isinstance (by decide +kernel) (pa_cons (pe_ix (r := rIxT K) ix_tup (pv 9) pe_int (fun _ _ => rfl)) (pa_cons (pe_bltn (v := .ty "list") (by rfl) T.z_list (by decide +kernel) rfl) pa_nil)))))))) (pss_one (ps_ret pe_bl)) pss_nil)
      (pss_one (ps_expr (pe_kBM rfl (pe_bm PySem.F.plainAttrs_list PySem.F.slot_list_append PySem.F.type_list_append mt_append (pe_ix (r := rIxT K) ix_tup (pv 9) pe_int (fun _ _ => rfl)) (pa_cons pe_int pa_nil)))))))))
      (pss_one (ps_ret (pe_cmpR (r := rEqD K) (op_eqD hr.units) (pe_g (ok_read_groups T) (hr.mono (by decide)) pass0S (pa_cons (pv 3) pa_nil)) (pv 2) (nomark _)))))))))))))), ?_⟩
    walk_at "cx"
    walk_at "rd"
    refine x_newL fun st H1 hst k1 e1 => ?_
    have dr1 : Dr K H1 st sc := ⟨0, 0, ns, by decide, by decide, e1, hlen, hsc.kp k1⟩
    walk_at "rd"
    refine ⟨st, sc, 4, rfl, by decide, by decide, dr1, fun n H2 n0 n1 dr2 k2 => ?_⟩
    obtain ⟨_, hst2⟩ := dr2.trk
    walk_at "rd"
    refine wlcH Wk.rng (F1 st) (fun D i acc H' => Dr K H' st sc ∧ D ≠ st ∧ ∃ gs, gs.length = i ∧ (∀ g ∈ gs, Good g ∧ g.length ≤ 3) ∧ Paired (GAt (fun b => b ≠ D ∧ b ≠ st) H') acc gs) (fun b z => by rw [z, hst2]; exact fun z => by cases z) (by rw [rgl_len]; omega) (fun _ _ _ _ _ _ => trivial)
      (fun D hD => ⟨dr2.kp (Kp.new hD) id, dr2.new hD, [], rfl, fun _ z => (by cases z), .nil⟩)
      (fun D i acc H' H4 k4 pv => by obtain ⟨d, nD, gs, l, g, p⟩ := pv; exact ⟨d.kp k4 nD.symm, nD, gs, l, g, p.mono fun _ _ x => x.kp k4 fun b _ _ o z => o.1 z⟩)
      (fun D i x acc H' R R0 ex hD hacc pv kp hR _ => ?_) (fun gl H3 acc hgl egl pv k3 => ?_)
    · obtain ⟨d, nD, gs, lg, gg, hp⟩ := pv
      walk_at "rd"
      refine ⟨rfl, ?_⟩
      walk_at "rd"
      refine ⟨st, sc, rfl, d, fun a H4 g g1 g2 hg dr4 k4 => ?_⟩
      refine hR _ H4 k4 ⟨dr4, nD, gs ++ [g], by rw [List.length_append, lg]; rfl, fun y hy => ?_, ?_⟩
      · rcases List.mem_append.mp hy with h | h
        · exact gg y h
        · rw [List.mem_singleton.mp h]; exact ⟨g1, g2⟩
      · obtain ⟨_, hst'⟩ := d.trk
        refine Paired.snoc (hp.mono fun _ _ x => x.kp k4 fun b _ _ o z => o.2 z) (hg.own fun b _ o => ⟨fun z => ?_, fun z => ?_⟩)
        · rw [z, hacc] at o; cases o
        · rw [z, hst'] at o; cases o
    obtain ⟨dr3, ngl, gs, lgs, hgs, hp⟩ := pv
    rw [rgl_len] at lgs
    have lgs3 : gs.length ≤ 3 := by omega
    have G3 : GsAt (fun b => b ≠ st) H3 gl gs := ⟨acc, egl, ngl, hp.mono fun _ _ x => x.own fun b _ o => o.2⟩
    have G3' := G3
    obtain ⟨vs, egl, _, hvs⟩ := G3
    walk_at "rd"
    refine x_newL fun d0 H4 hd0 k4 e4 => ?_
    have egl4 := k4.get egl id
    walk_at "rd"
    refine wfor Wk.list (fun i σ H' => ∃ d u4 u5 u6, σ = [some (.ref sc), some (.ref st), some (.ref gl), some (.ref d), u4, u5, u6, none, none, none, none] ∧ H' d = some (.lst (((gs.take i).flatMap wg).map V.int)) ∧ d ≠ st ∧ Kp F0 H3 H')
      ⟨d0, none, none, none, rfl, e4, dr3.new hd0, k4⟩ (fun i σ H' ⟨_, _, _, _, _, _, _, kk⟩ => SqL.of (kk.get egl id)) ?_ ?_
    · rintro i x σ H5 ex ⟨d, u4, u5, u6, rfl, ed, nds, kk⟩
      obtain ⟨g, eg, hg⟩ := pgt hvs ex
      have gg := hgs g (List.mem_of_getElem? eg)
      have hg5 := hg.kp kk fun _ _ _ _ z => z
      obtain ⟨a, ws, rfl, ha, oa, hw⟩ := id hg5
      walk_at "rd"
      refine x_lstL (SqL.of ha) fun h H6 hh k6 e6 => ?_
      walk_at "rd"
      refine ⟨_, h, ws, g, rfl, SqL.of e6, hw.mono fun _ _ x => x.kp k6 fun _ _ _ _ z => z, gg.1, fun b H7 hb k7 e7 => ?_⟩
      have k57 : Kp F0 H5 H7 := k6.trans k7 fun _ z => z.elim
      walk_at "rd"
      refine ⟨_, a, g, rfl, hg5.kp k57 fun _ _ _ _ z => z, gg.1, gg.2, fun b' H8 hb' k8 e8 => ?_⟩
      have k58 : Kp F0 H5 H8 := k57.trans k8 fun _ z => z.elim
      refine x_neLI (SqL.of (k8.get e7 id)) (SqL.of e8) ?_
      rw [decide_eq_true (rfl : wg g = wg g)]
      walk_at "rd"
      have e68 := (k7.trans k8 fun _ z => z.elim).get e6 id
      have ha8 := k58.get ha id
      have hw8 : Paired (PAt (fun b => b ≠ st) H8) ws g := hw.mono fun _ _ x => x.kp k58 fun _ _ _ _ z => z
      refine x_neD (d := gD g) (e := gD g) (.lst (SqL.of e68) (dp_all (fun _ _ r => r.dp) hw8)) (.lst (SqL.of ha8) (dp_all (fun _ _ r => r.dp) hw8)) (gD_sh g).shaped (gD_sh g).shaped ?_
      rw [eqv_refl (gD_sh g).2.2]
      walk_at "rd"
      have lz := wgs_len (gs := gs.take i) fun y hy => hgs y (List.mem_of_mem_take hy)
      have lz2 : (gs.take i).length ≤ gs.length := by rw [List.length_take]; omega
      refine x_catL (k58.get ed id) (k8.get e7 id) (by rw [List.length_map, List.length_map, wg_len gg.1, sizeLine_eq]; omega) fun e H9 he k9 e9 => ?_
      refine ⟨e, _, _, _, rfl, ?_, (dr3.kp (kk.trans k58 fun _ z => z.elim) id).new he, (kk.trans k58 fun _ z => z.elim).trans k9 fun _ z => z.elim⟩
      rw [e9, takes eg, List.map_append]
    · rintro σ H5 ⟨d, u4, u5, u6, rfl, ed, nds, kk⟩
      rw [show vs.length = gs.length from hvs.length, List.take_length] at ed
      have dr5 := dr3.kp kk id
      walk_at "rd"
      refine ⟨st, sc, rfl, dr5, fun ga H6 more hm hm3 hma dr6 k6 => ?_⟩
      have ed6 := k6.get ed nds
      walk_at "rd"
      refine ⟨_, ga, more, rfl, hma, hm, hm3, fun b H7 hb k7 e7 => ?_⟩
      have dr7 := dr6.kp k7 id
      have nb := dr6.new hb
      have ed7 := k7.get ed6 id
      have lm := wg_len hm
      walk_at "rd"
      rw [List.length_map]
      refine ⟨st, sc, _, rfl, by omega, by omega, dr7, fun j H8 j0 j1 dr8 k8 => ?_⟩
      have e8 := k8.get e7 nb
      have ed8 := k8.get ed7 nds
      walk_at "rd"
      refine x_slL (SqL.of e8) fun c1 H9 hc1 k9 e9 => ?_
      rw [cut_to j0 (by omega)] at e9
      have lz := wgs_len hgs
      walk_at "rd"
      refine x_catL (k9.get ed8 id) e9 (by rw [List.length_map, List.length_map, List.length_take, sizeLine_eq]; omega) fun da H10 hda k10 e10 => ?_
      generalize hds : gs.flatMap wg ++ (wg more).take j.toNat = ds
      rw [← List.map_append, hds] at e10
      walk_at "rd"
      refine x_lstL (SqL.of e10) fun kp H11 hkp k11 e11 => ?_
      have e10' := k11.get e10 id
      have dr11 := ((dr8.kp k9 id).kp k10 id).kp k11 id
      have k311 : Kp (F1 st) H3 H11 := (((((kk.mono fun _ z => z.elim).trans k6 fun _ z => .inl z).trans k7 fun _ z => z.elim).trans k8 fun _ z => .inl z).trans (k9.trans k10 fun _ z => z.elim) fun _ z => z.elim).trans k11 fun _ z => z.elim
      have G11 := G3'.kp k311 fun b _ _ o z => o z
      walk_at "rd"
      refine ⟨da, ds, gs, more, j.toNat, rfl, SqL.of e10', hds.symm, by omega, fun g hg => (hgs g hg).1, hm, by omega, fun r H12 hr12 k12 hr => ?_⟩
      have G12 := G11.kp k12 fun _ _ _ _ z => z
      obtain ⟨vs2, er, or, hv2⟩ := id hr
      walk_at "rd"
      refine x_isiR (T := "list") (.base (.lst er)) (b := true) (kit_ty (by decide +kernel)) ?_
      walk_at "rd"
      refine x_neD hr.dp G12.dp (gsD_sh gs).shaped (gsD_sh gs).shaped ?_
      rw [eqv_refl (gsD_sh gs).2.2]
      walk_at "rd"
      refine x_neLI (SqL.of (k12.get e10' id)) (SqL.of (k12.get e11 id)) ?_
      rw [decide_eq_true (rfl : ds = ds)]
      walk_at "rd"
      have fm0 : FM (fun b => H11 b = none) 256 H12 r vs2 := ⟨er, fun x hx => by
        obtain ⟨i, hi⟩ := List.getElem?_of_mem hx
        obtain ⟨g, eg, a, ws, rfl, ha, oa, hw⟩ := pgt hv2 hi
        have gg := hgs g (List.mem_of_getElem? eg)
        refine ⟨a, ws, rfl, ha, by rw [hw.length]; exact gg.2, fun y hy => ?_⟩
        obtain ⟨i, hi⟩ := List.getElem?_of_mem hy
        obtain ⟨q, eq, t, l, rfl, ht, hl, ol⟩ := pgt hw hi
        have lq := (gg.1.q q (List.mem_of_getElem? eq)).2.2
        exact ⟨t, q.1, l, q.2, rfl, ht, hl, fun z => (by rw [z] at lq; cases lq), Nat.le_of_eq lq, ol⟩⟩
      have lv2 : vs2.length = gs.length := hv2.length
      refine wfor Wk.list (fun i σ H' => ∃ u4 u9, σ = [some (.ref sc), some (.ref st), some (.ref gl), some (.ref da), u4, u5, some (.ref r), some (.ref b), some (.ref kp), u9, none] ∧ FM (fun b => H11 b = none) (256 + 3 * i) H' r vs2 ∧ Kp (fun b => H11 b = none) H12 H')
        ⟨u4, none, rfl, fm0, Kp.refl _⟩ (fun i σ H' ⟨_, _, _, fm, _⟩ => SqL.of fm.1) ?_ ?_
      · rintro i x σ H13 ex ⟨u4, u9, rfl, fm, k13⟩
        obtain ⟨a, ws, rfl, ha, lw, hw⟩ := fm.2 x (List.mem_of_getElem? ex)
        have hi2 : i < vs2.length := (List.getElem?_eq_some_iff.mp ex).1
        walk_at "rd"
        refine wfor Wk.list (fun j σ H' => ∃ u9, σ = [some (.ref sc), some (.ref st), some (.ref gl), some (.ref da), some (.ref a), u5, some (.ref r), some (.ref b), some (.ref kp), u9, none] ∧ FM (fun b => H11 b = none) (256 + 3 * i + j) H' r vs2 ∧ H' a = some (.lst ws) ∧ (∀ y ∈ ws, PgM (fun b => H11 b = none) (256 + 3 * i + j) H' y) ∧ Kp (fun b => H11 b = none) H12 H')
          ⟨u9, rfl, fm, ha, hw, k13⟩ (fun i σ H' ⟨_, _, _, ha, _⟩ => SqL.of ha) ?_ ?_
        · rintro j y σ H14 ey ⟨u9, rfl, fm, ha, hw, k14⟩
          have hy := List.mem_of_getElem? ey
          obtain ⟨t, n, l, ns, rfl, ht, hl, nn, ln, ol⟩ := hw y hy
          have hj : j < ws.length := (List.getElem?_eq_some_iff.mp ey).1
          walk_at "rd"
          refine x_isiR (T := "tuple") (.base (.tup ht)) (b := true) (kit_ty (by decide +kernel)) ?_
          walk_at "rd"
          refine x_isiR (T := "list") (.base (.lst hl)) (b := true) (kit_ty (by decide +kernel)) ?_
          walk_at "rd"
          refine x_app hl (by rw [List.length_map]; omega) fun H15 e15 k15 => ?_
          have nal : a ≠ l := nref ha (fun y hy => by obtain ⟨t, _, _, _, e, _⟩ := hw y hy; exact ⟨t, e⟩) hl nn
          refine ⟨_, rfl, fm.app hl nn ln k15 e15, k15.get ha nal, fun y hy => (hw y hy).app hl nn ln k15 e15, k14.trans k15 fun x z => .inl (by rw [z]; exact ol)⟩
        · rintro σ H14 ⟨u9, rfl, fm, ha, hw, k14⟩
          exact ⟨_, _, rfl, fm.le (by omega), k14⟩
      · rintro σ H13 ⟨u4, u9, rfl, fm, k13⟩
        have k1113 : Kp (fun b => H11 b = none) H11 H13 := (k12.mono fun _ z => z.elim).trans k13 fun _ z => .inl z
        have e13 : H13 da = some (.lst (ds.map V.int)) := k1113.get e10' (by rw [e10']; exact fun z => by cases z)
        have G13 := G11.kp k1113 fun b o h _ z => by rw [z] at h; cases h
        walk_at "rd"
        refine ⟨da, ds, gs, more, j.toNat, rfl, SqL.of e13, hds.symm, by omega, fun g hg => (hgs g hg).1, hm, by omega, fun r2 H14 hr14 k14 hr2 => ?_⟩
        walk_at "rd"
        refine x_eqD hr2.dp (G13.kp k14 fun _ _ _ _ z => z).dp (gsD_sh gs).shaped (gsD_sh gs).shaped ?_
        rw [eqv_refl (gsD_sh gs).2.2]
        exact k _
end
theorem all_mk {l : PySem.W.OpenLaw} {w : World} {K : PySem.W.Frag} {h : Heap} {mg : Str → Option Value} {fa : Addr} (X : K.In h) (G : h.Ns mainGlobals mg) (hfa : mg "law" = some (.ref fa))
    {f1 : Addr} {od1 an1 : Option Addr} {sl1 : Array (Option Value)} {oc1 kV1 dc1 pm1 cd1 ct1 : Value}
    {f2 : Addr} {od2 an2 : Option Addr} {sl2 : Array (Option Value)} {oc2 kV2 dc2 pm2 cd2 ct2 : Value}
    {f3 : Addr} {od3 an3 : Option Addr} {sl3 : Array (Option Value)} {oc3 kV3 dc3 pm3 cd3 ct3 : Value}
    {f4 : Addr} {od4 an4 : Option Addr} {sl4 : Array (Option Value)} {oc4 kV4 dc4 pm4 cd4 ct4 : Value}
    {f5 : Addr} {od5 an5 : Option Addr} {sl5 : Array (Option Value)} {oc5 kV5 dc5 pm5 cd5 ct5 : Value}
    {f6 : Addr} {od6 an6 : Option Addr} {sl6 : Array (Option Value)} {oc6 kV6 dc6 pm6 cd6 ct6 : Value}
    {f7 : Addr} {od7 an7 : Option Addr} {sl7 : Array (Option Value)} {oc7 kV7 dc7 pm7 cd7 ct7 : Value}
    {f8 : Addr} {od8 an8 : Option Addr} {sl8 : Array (Option Value)} {oc8 kV8 dc8 pm8 cd8 ct8 : Value}
    {f9 : Addr} {od9 an9 : Option Addr} {sl9 : Array (Option Value)} {oc9 kV9 dc9 pm9 cd9 ct9 : Value}
    {t_PAGE_SIZE : Tok}
    {t_NUMBER_SIZE : Tok}
    (a1 : PySem.W.nsIn K mainGlobals "write_number" = some (some (.ref f1)))
    (l1 : K.lookup f1 = some ⟨oc1, od1, .func (PySem.W.fnOf "write_number" "write_number" (defArgs s_write_number) (defBody s_write_number) (defScope s_write_number) .none kV1 dc1 pm1 an1 cd1 ct1), sl1⟩)
    (c1 : PySem.W.codeIn K cd1 "write_number" = true)
    (k1 : PySem.W.keepIn K (.ref f1) = true)
    (a2 : PySem.W.nsIn K mainGlobals "read_number" = some (some (.ref f2)))
    (l2 : K.lookup f2 = some ⟨oc2, od2, .func (PySem.W.fnOf "read_number" "read_number" (defArgs s_read_number) (defBody s_read_number) (defScope s_read_number) .none kV2 dc2 pm2 an2 cd2 ct2), sl2⟩)
    (c2 : PySem.W.codeIn K cd2 "read_number" = true)
    (k2 : PySem.W.keepIn K (.ref f2) = true)
    (a3 : PySem.W.nsIn K mainGlobals "write_group" = some (some (.ref f3)))
    (l3 : K.lookup f3 = some ⟨oc3, od3, .func (PySem.W.fnOf "write_group" "write_group" (defArgs s_write_group) (defBody s_write_group) (defScope s_write_group) .none kV3 dc3 pm3 an3 cd3 ct3), sl3⟩)
    (c3 : PySem.W.codeIn K cd3 "write_group" = true)
    (k3 : PySem.W.keepIn K (.ref f3) = true)
    (a4 : PySem.W.nsIn K mainGlobals "read_groups" = some (some (.ref f4)))
    (l4 : K.lookup f4 = some ⟨oc4, od4, .func (PySem.W.fnOf "read_groups" "read_groups" (defArgs s_read_groups) (defBody s_read_groups) (defScope s_read_groups) .none kV4 dc4 pm4 an4 cd4 ct4), sl4⟩)
    (c4 : PySem.W.codeIn K cd4 "read_groups" = true)
    (k4 : PySem.W.keepIn K (.ref f4) = true)
    (a5 : PySem.W.nsIn K mainGlobals "_law_draw" = some (some (.ref f5)))
    (l5 : K.lookup f5 = some ⟨oc5, od5, .func (PySem.W.fnOf "_law_draw" "_law_draw" (defArgs s__law_draw) (defBody s__law_draw) (defScope s__law_draw) .none kV5 dc5 pm5 an5 cd5 ct5), sl5⟩)
    (c5 : PySem.W.codeIn K cd5 "_law_draw" = true)
    (k5 : PySem.W.keepIn K (.ref f5) = true)
    (a6 : PySem.W.nsIn K mainGlobals "_law_content" = some (some (.ref f6)))
    (l6 : K.lookup f6 = some ⟨oc6, od6, .func (PySem.W.fnOf "_law_content" "_law_content" (defArgs s__law_content) (defBody s__law_content) (defScope s__law_content) .none kV6 dc6 pm6 an6 cd6 ct6), sl6⟩)
    (c6 : PySem.W.codeIn K cd6 "_law_content" = true)
    (k6 : PySem.W.keepIn K (.ref f6) = true)
    (a7 : PySem.W.nsIn K mainGlobals "_law_group" = some (some (.ref f7)))
    (l7 : K.lookup f7 = some ⟨oc7, od7, .func (PySem.W.fnOf "_law_group" "_law_group" (defArgs s__law_group) (defBody s__law_group) (defScope s__law_group) .none kV7 dc7 pm7 an7 cd7 ct7), sl7⟩)
    (c7 : PySem.W.codeIn K cd7 "_law_group" = true)
    (k7 : PySem.W.keepIn K (.ref f7) = true)
    (a8 : PySem.W.nsIn K mainGlobals "_law_bytes" = some (some (.ref f8)))
    (l8 : K.lookup f8 = some ⟨oc8, od8, .func (PySem.W.fnOf "_law_bytes" "_law_bytes" (defArgs s__law_bytes) (defBody s__law_bytes) (defScope s__law_bytes) .none kV8 dc8 pm8 an8 cd8 ct8), sl8⟩)
    (c8 : PySem.W.codeIn K cd8 "_law_bytes" = true)
    (k8 : PySem.W.keepIn K (.ref f8) = true)
    (a9 : PySem.W.nsIn K mainGlobals "law" = some (some (.ref f9)))
    (l9 : K.lookup f9 = some ⟨oc9, od9, .func (PySem.W.fnOf "law" "law" (defArgs s_law) (defBody s_law) (defScope s_law) .none kV9 dc9 pm9 an9 cd9 ct9), sl9⟩)
    (c9 : PySem.W.codeIn K cd9 "law" = true)
    (k9 : PySem.W.keepIn K (.ref f9) = true)
    (g_PAGE_SIZE : PySem.W.nsIn K mainGlobals "PAGE_SIZE" = some (some (.int 256 t_PAGE_SIZE)))
    (g_NUMBER_SIZE : PySem.W.nsIn K mainGlobals "NUMBER_SIZE" = some (some (.int 4 t_NUMBER_SIZE)))
    (z_int : PySem.W.nsIn K mainGlobals "int" = some none)
    (z_isinstance : PySem.W.nsIn K mainGlobals "isinstance" = some none)
    (z_len : PySem.W.nsIn K mainGlobals "len" = some none)
    (z_list : PySem.W.nsIn K mainGlobals "list" = some none)
    (z_range : PySem.W.nsIn K mainGlobals "range" = some none)
    (z_tuple : PySem.W.nsIn K mainGlobals "tuple" = some none)
    : ∃ fd : FuncData, (∀ (s : Shared) (v : Value), BindsTo s fd ⟨[v], []⟩ [("_law_script", v)]) ∧ ∀ base : Heap, K.In base → base.Ns mainGlobals mg → FnOk l.prog w K mg base CX0 4 fa fd ["_law_script"] (sp_law K) := by
  have T : Txt K mg := { f_write_number := ⟨f1, _, fun_mk (st := s_write_number) l1 c1 k1, PySem.W.mg_of X G a1⟩, f_read_number := ⟨f2, _, fun_mk (st := s_read_number) l2 c2 k2, PySem.W.mg_of X G a2⟩, f_write_group := ⟨f3, _, fun_mk (st := s_write_group) l3 c3 k3, PySem.W.mg_of X G a3⟩, f_read_groups := ⟨f4, _, fun_mk (st := s_read_groups) l4 c4 k4, PySem.W.mg_of X G a4⟩, f__law_draw := ⟨f5, _, fun_mk (st := s__law_draw) l5 c5 k5, PySem.W.mg_of X G a5⟩, f__law_content := ⟨f6, _, fun_mk (st := s__law_content) l6 c6 k6, PySem.W.mg_of X G a6⟩, f__law_group := ⟨f7, _, fun_mk (st := s__law_group) l7 c7 k7, PySem.W.mg_of X G a7⟩, f__law_bytes := ⟨f8, _, fun_mk (st := s__law_bytes) l8 c8 k8, PySem.W.mg_of X G a8⟩, f_law := ⟨f9, _, fun_mk (st := s_law) l9 c9 k9, PySem.W.mg_of X G a9⟩, m_PAGE_SIZE := ⟨_, PySem.W.mg_of X G g_PAGE_SIZE⟩, m_NUMBER_SIZE := ⟨_, PySem.W.mg_of X G g_NUMBER_SIZE⟩, z_int := PySem.W.mg_none_of X G z_int, z_isinstance := PySem.W.mg_none_of X G z_isinstance, z_len := PySem.W.mg_none_of X G z_len, z_list := PySem.W.mg_none_of X G z_list, z_range := PySem.W.mg_none_of X G z_range, z_tuple := PySem.W.mg_none_of X G z_tuple }
  have e := hfa.symm.trans (PySem.W.mg_of X G a9)
  cases e
  refine ⟨PySem.W.fnOf "law" "law" (defArgs s_law) (defBody s_law) (defScope s_law) .none kV9 dc9 pm9 an9 cd9 ct9, fun s v => .of_eq rfl, fun base _ _ => ?_⟩
  exact ok_law (fun_mk (st := s_law) l9 c9 k9) T
theorem walk {l : PySem.W.OpenLaw} {q : Program} {loose : List Str} {XP : (Str → Option Value) → Heap → Prop} {YP : World → Heap → Prop} {d : DefRec} {K : Params → PySem.W.Frag} (hn : l.most = some 63) (hdf : d.params.defaults = [])
    (hY : ∀ (w : World) (h : Heap), YP w h → (K w.params).In h)
    (F : ∀ (w : World) (mg : Str → Option Value) (fa : Addr) (h : Heap), (K w.params).In h → h.Ns mainGlobals mg → mg d.name = some (.ref fa) →
      ∃ fd : FuncData, (∀ (s : Shared) (u : Value), BindsTo s fd ⟨[u], []⟩ [("_law_script", u)]) ∧ ∀ base : Heap, (K w.params).In base → base.Ns mainGlobals mg → FnOk l.prog w (K w.params) mg base CX0 4 fa fd ["_law_script"] (sp_law (K w.params))) :
    PySem.W.WalkO q loose XP YP l.row.toRowW d [] (fun f vs => PySem.call f vs) :=
  L2.walk_of (n := 63) (k := 4) (x := "_law_script") (CX := fun _ => CX0) (sp := fun w => sp_law (K w.params)) hn (by decide) hdf ⟨rfl, by decide, by decide⟩ hY F (fun _ _ a ns hl hO hS => ⟨a, ns, rfl, Sc.of hO hS, hl, fun _ => rfl⟩) fun _ _ _ _ _ z => z
end NV
open PySem PySem.W PyProof.Rows
set_option maxRecDepth 100000 in
set_option maxHeartbeats 0 in
theorem PySem.Challenge.cw_nearvault_k04_groups_holds : PySem.Challenge.rw_nearvault_k04_groups.Holds := by
  w_on; o_law; k_head; (case hw => w_witness2)
  k_fill
  refine NV.walk (l := PySem.Challenge.rw_nearvault_k04_groups) rfl rfl (fun w h Y => PySem.W.kIn_of Y) ?F
  case F =>
    intro w mg fa h KX G hmg
    refine' NV.all_mk KX G hmg ?a1 ?l1 ?c1 ?k1 ?a2 ?l2 ?c2 ?k2 ?a3 ?l3 ?c3 ?k3 ?a4 ?l4 ?c4 ?k4 ?a5 ?l5 ?c5 ?k5 ?a6 ?l6 ?c6 ?k6 ?a7 ?l7 ?c7 ?k7 ?a8 ?l8 ?c8 ?k8 ?a9 ?l9 ?c9 ?k9 ?g_PAGE_SIZE ?g_NUMBER_SIZE ?z_int ?z_isinstance ?z_len ?z_list ?z_range ?z_tuple
    (case a1 => k_is)
    (case l1 => k_is)
    (case c1 => k_is)
    (case k1 => k_is)
    (case a2 => k_is)
    (case l2 => k_is)
    (case c2 => k_is)
    (case k2 => k_is)
    (case a3 => k_is)
    (case l3 => k_is)
    (case c3 => k_is)
    (case k3 => k_is)
    (case a4 => k_is)
    (case l4 => k_is)
    (case c4 => k_is)
    (case k4 => k_is)
    (case a5 => k_is)
    (case l5 => k_is)
    (case c5 => k_is)
    (case k5 => k_is)
    (case a6 => k_is)
    (case l6 => k_is)
    (case c6 => k_is)
    (case k6 => k_is)
    (case a7 => k_is)
    (case l7 => k_is)
    (case c7 => k_is)
    (case k7 => k_is)
    (case a8 => k_is)
    (case l8 => k_is)
    (case c8 => k_is)
    (case k8 => k_is)
    (case a9 => k_is)
    (case l9 => k_is)
    (case c9 => k_is)
    (case k9 => k_is)
    (case g_PAGE_SIZE => k_is)
    (case g_NUMBER_SIZE => k_is)
    (case z_int => k_is)
    (case z_isinstance => k_is)
    (case z_len => k_is)
    (case z_list => k_is)
    (case z_range => k_is)
    (case z_tuple => k_is)
