import PyProof.Rows.All
import Wide.All
import OpenK.AllK
import Wide.FinOn
import HandS.ForMost
import HandS.ForExc
import HandS.Wide
import HandS.IsInst
import HandS.More
import HandS.RevRange
import HandS.TupAny
import HandS.TupLe
import HandS.SortInts
import HandS.Small
import HandS.Codes
import HandS.WideBits
import HandS.ExcIs
import PySem.Challenge.RW_nearvault_k03_devices
set_option Elab.async false
set_option linter.all false
set_option maxRecDepth 100000
set_option maxHeartbeats 4000000
/-! Nearvault: what all claims share. -/
namespace NV
open PySem L2

/-! ### packaged callables -/
section
variable (P : Program) (w : World) (K : PySem.W.Frag) (mg : Str → Option Value) (base : Heap)
/-- the def that the module's name x holds keeps its promise -/
def GF (CX : CXT) (k : Nat) (x : Str) (sp : Sp) : Prop := ∃ f fd ps, FnOk P w K mg base CX k f fd ps sp ∧ mg x = some (.ref f) ∧ PySem.W.keepIn K (.ref f) = true ∧ Binds K fd ps []
/-- the method m of the class at C -/
def GM (CX : CXT) (k : Nat) (C : Addr) (m : Str) (sp : Sp) : Prop := ∃ f fd ps, FnOk P w K mg base CX k f fd ps sp ∧ Meth K C m f ∧ Binds K fd ps []
/-- the class at C by its __init__ -/
def GC (CX : CXT) (k : Nat) (x : Str) (C : Addr) (sp : Sp) : Prop := ∃ f fd ps, FnOk P w K mg base CX k f fd ps sp ∧ Mk K C f ∧ mg x = some (.ref C) ∧ Binds K fd ps []
end

section
variable {X : Cx} {CX : CXT} {k : Nat} {x : Str} {sp : Sp} {E : L2.St → XK} {p pos apos : Pos} {e o : Expr} {es : List Expr} {t : TA} {ta : TE} {C : Addr} {m : Str} {pl : Sem Bool}
theorem pass0S : ∀ σ, PassesAt CX0 X σ ((fun _ => E0) σ) := fun _ _ _ _ _ _ _ h => h.elim
theorem passN : ∀ σ, PassesAt (L2.CX X.prog X.w) X σ ((fun _ => E0) σ) := fun σ pins H s e s' I c => passL pins σ H s e s' I c
theorem pe_g (G : GF X.prog X.w X.K X.mg X.base CX k x sp) (hr : Room k X.A) (hx : ∀ σ, PassesAt CX X σ (E σ)) (ha : PA X (e :: es) t) (hg : Gl X x := by rfl)
    (hdb : (x == ("__debug__" : Str)) = false := by decide) (he : starEach (e :: es) X.env = (false, eval e X.env) :: starEach es X.env := by rfl) (hpl : (backTo pos (starEach es X.env)).any (·.1) = false := by rfl) :
    PE X (.Call (.Name x p) (e :: es) [] pos) (tCallS sp E t) := by
  obtain ⟨f, fd, ps, F, hm, hk, hb⟩ := G
  exact pe_callS F hr hg hm hk hb hx ha hdb he hpl
theorem pe_g0 (G : GF X.prog X.w X.K X.mg X.base CX k x sp) (hr : Room k X.A) (hx : ∀ σ, PassesAt CX X σ (E σ)) (hg : Gl X x := by rfl)
    (hdb : (x == ("__debug__" : Str)) = false := by decide) : PE X (.Call (.Name x p) [] [] pos) (tCallS sp E tNil) := by
  obtain ⟨f, fd, ps, F, hm, hk, hb⟩ := G
  refine ⟨fun pins s σ H Q I h => wpAny_Call_Name_kw (ld_glob I hg hm ?_ hdb)⟩
  exact PySem.W.callWith_K0 I.kIn hk (run_fnS (us := []) F hr hb (hx σ) I .nil h)
/-- o.m(e, ..), what is raised wished for at the caller's slots -/
def tMethS (C : Addr) (m : Str) (sp : Sp) (E : L2.St → XK) (ta : TE) (t : TA) : TE := fun σ H Q => ta σ H fun x H1 => ∃ a dx fs, x = .ref a ∧ H1 a = some (.ins C dx fs) ∧ fs.lookup m = none ∧ t σ H1 fun vs H2 => sp (.ref a :: vs) H2 Q (E σ)
theorem pe_gm (c : Cls X.K C) (G : GM X.prog X.w X.K X.mg X.base CX k C m sp) (ho : PE X o ta) (hr : Room k X.A) (hx : ∀ σ, PassesAt CX X σ (E σ)) (ha : PA X (e :: es) t)
    (he : starEach (e :: es) X.env = (false, eval e X.env) :: starEach es X.env := by rfl) (hpl : (backTo pos (starEach es X.env)).any (·.1) = false := by rfl)
    (ht : eval (.Call (.Attribute o m apos) (e :: es) [] pos) X.env = (do
      let ov ← eval o X.env; standAt apos.atName; let (f, first) ← holding [ov] (getMethod ov m pl); callWith pos f first (backTo pos (starEach (e :: es) X.env)) (backToKw pos (keywordEach [] X.env))) := by rfl) :
    PE X (.Call (.Attribute o m apos) (e :: es) [] pos) (tMethS C m sp E ta t) := by
  obtain ⟨f, fd, ps, F, hm, hb⟩ := G
  refine ⟨fun pins s σ H Q I h => PySem.W.methodCall_KW (pl := pl) (thn (ho.run pins s σ H _ I h) fun u s1 ⟨y, H1, I1, ry, a, dx, fs, ey, ea, l, q⟩ => ?_) ht⟩
  subst ey
  cases (show u = Value.ref a from ry)
  refine getmeth_ok I1 ea c hm l (PySem.W.callWith_K (first := [.ref a]) (h₀ := X.base) I.ok.mod.kin hm.kp (thn (ha.run pos pins s1 σ H1 _ I1 q) fun us s2 ⟨vs, H2, I2, r, q2⟩ => ⟨I2.kIn, ?_⟩) he hpl)
  exact run_fnS (us := .ref a :: us) (vs := .ref a :: vs) F hr hb (hx σ) I2 (.cons rfl r) q2
theorem pe_gm0 (c : Cls X.K C) (G : GM X.prog X.w X.K X.mg X.base CX k C m sp) (ho : PE X o ta) (hr : Room k X.A) (hx : ∀ σ, PassesAt CX X σ (E σ))
    (ht : eval (.Call (.Attribute o m apos) [] [] pos) X.env = (do
      let ov ← eval o X.env; standAt apos.atName; let (f, first) ← holding [ov] (getMethod ov m pl); callWith pos f first (backTo pos (starEach [] X.env)) (backToKw pos (keywordEach [] X.env))) := by rfl) :
    PE X (.Call (.Attribute o m apos) [] [] pos) (tMethS C m sp E ta tNil) := by
  obtain ⟨f, fd, ps, F, hm, hb⟩ := G
  refine ⟨fun pins s σ H Q I h => PySem.W.methodCall_KW (pl := pl) (thn (ho.run pins s σ H _ I h) fun u s1 ⟨y, H1, I1, ry, a, dx, fs, ey, ea, l, q⟩ => ?_) ht⟩
  subst ey
  cases (show u = Value.ref a from ry)
  exact getmeth_ok I1 ea c hm l (PySem.W.callWith_K0 (first := [.ref a]) I1.kIn hm.kp (run_fnS (us := [.ref a]) (vs := [.ref a]) F hr hb (hx σ) I1 (.cons rfl .nil) q))
/-- C(e, ..), what is raised wished for at the caller's slots -/
def tMakeS (C : Addr) (sp : Sp) (E : L2.St → XK) (t : TA) : TE := fun σ H Q => t σ H fun vs H1 => ∀ x dx, H1 x = none → H1 dx = none → dx ≠ x →
  sp (.ref x :: vs) (upd (upd H1 dx (.own x)) x (.ins C dx [])) (fun v H2 => v = .non ∧ Q (.ref x) H2) (E σ)
theorem run_mkS {pins : List (Addr × Obj)} {σ : L2.St} {H : Hp} {s : Shared} {Q : VK} {us : List Value} {vs : List V} {f : Addr} {fd : FuncData} {ps : List Str} (M : Mk X.K C f) (F : FnOk X.prog X.w X.K X.mg X.base CX k f fd ps sp)
    (hr : Room (k + 1) X.A) (hb : Binds X.K fd ps []) (hx : PassesAt CX X σ (E σ)) (I : Inv X pins σ H s) (r : Vals vs us)
    (h : ∀ x dx, H x = none → H dx = none → dx ≠ x → sp (.ref x :: vs) (upd (upd H dx (.own x)) x (.ins C dx [])) (fun v H2 => v = .non ∧ Q (.ref x) H2) (E σ)) :
    wpAny (model X.prog X.w) X.A (call (.ref C) us) (EP X pins σ Q) X.xe s := by
  have z := h (s.heap.objs.size + 1) s.heap.objs.size (I.hok.fresh (Nat.le_succ _)) (I.hok.fresh (Nat.le_refl _)) (Nat.ne_of_lt (Nat.lt_succ_self _))
  have J := Inv.made (C := C) I
  have rr : Vals (V.ref (s.heap.objs.size + 1) :: vs) (Value.ref (s.heap.objs.size + 1) :: us) := .cons rfl r
  have len : (Value.ref (s.heap.objs.size + 1) :: us).length = ps.length := rr.length.symm.trans (F.len _ _ _ _ z)
  have b := hb _ (Value.ref (s.heap.objs.size + 1) :: us) J.kIn (by rw [List.append_nil]; exact len)
  rw [List.append_nil] at b
  refine wpAny_call (make_map (f := f) I.kIn M.makes M.init (beq_iff_eq.mp M.fn) (codeAny_mono (F.run _ X.stack _ _ _ _ _ _ _ (hr.make C us []) (J.env0.make C us []) b rr z) fun res s' hq => ?_))
  cases res with
  | error e => exact hx pins _ _ e s' J hq
  | ok fl =>
    cases fl with
    | ret u =>
      obtain ⟨v, H', I3, rv, ev, q3⟩ := J.after hq
      subst ev
      exact ⟨rv, V.ref (s.heap.objs.size + 1), H', I3, rfl, q3⟩
    | next => cases hq
    | brk => cases hq
    | cont => cases hq
theorem pe_gc (G : GC X.prog X.w X.K X.mg X.base CX k x C sp) (hr : Room (k + 1) X.A) (hx : ∀ σ, PassesAt CX X σ (E σ)) (ha : PA X (e :: es) t) (hg : Gl X x := by rfl)
    (hdb : (x == ("__debug__" : Str)) = false := by decide) (he : starEach (e :: es) X.env = (false, eval e X.env) :: starEach es X.env := by rfl) (hpl : (backTo pos (starEach es X.env)).any (·.1) = false := by rfl) :
    PE X (.Call (.Name x p) (e :: es) [] pos) (tMakeS C sp E t) := by
  obtain ⟨f, fd, ps, F, M, hm, hb⟩ := G
  refine ⟨fun pins s σ H Q I h => wpAny_Call_Name_kw (ld_glob I hg hm ?_ hdb)⟩
  exact PySem.W.callWith_K (h₀ := X.base) I.ok.mod.kin M.kp (thn (ha.run pos pins s σ H _ I h) fun us s1 ⟨vs, H1, I1, r, q⟩ => ⟨I1.kIn, run_mkS M F hr hb (hx σ) I1 r q⟩) he hpl
theorem pe_gc0 (G : GC X.prog X.w X.K X.mg X.base CX k x C sp) (hr : Room (k + 1) X.A) (hx : ∀ σ, PassesAt CX X σ (E σ)) (hg : Gl X x := by rfl)
    (hdb : (x == ("__debug__" : Str)) = false := by decide) : PE X (.Call (.Name x p) [] [] pos) (tMakeS C sp E tNil) := by
  obtain ⟨f, fd, ps, F, M, hm, hb⟩ := G
  refine ⟨fun pins s σ H Q I h => wpAny_Call_Name_kw (ld_glob I hg hm ?_ hdb)⟩
  exact PySem.W.callWith_K0 I.kIn M.kp (run_mkS (us := []) M F hr hb (hx σ) I .nil h)
end

/-! ### heaps: what a step keeps -/
/-- what never changes -/
def Fix : HO → Prop
  | .tup _ => True
  | .frz _ _ => True
  | _ => False
/-- all that was tracked is as it was, but at F (where what never changes is kept too) -/
def Kp (F : Addr → Prop) (H H' : Hp) : Prop := ∀ b o, H b = some o → (F b → Fix o) → H' b = some o
abbrev F0 : Addr → Prop := fun _ => False
abbrev F1 (a : Addr) : Addr → Prop := fun b => b = a
theorem Kp.refl {F : Addr → Prop} (H : Hp) : Kp F H H := fun _ _ h _ => h
theorem Kp.get {F : Addr → Prop} {H H' : Hp} {b : Addr} {o : HO} (s : Kp F H H') (h : H b = some o) (n : ¬ F b) : H' b = some o := s b o h fun z => (n z).elim
theorem Kp.fix {F : Addr → Prop} {H H' : Hp} {b : Addr} {o : HO} (s : Kp F H H') (h : H b = some o) (n : Fix o) : H' b = some o := s b o h fun _ => n
theorem Kp.tup {F : Addr → Prop} {H H' : Hp} {b : Addr} {xs : List V} (s : Kp F H H') (h : H b = some (.tup xs)) : H' b = some (.tup xs) := s.fix h trivial
theorem Kp.free {F : Addr → Prop} {H H' : Hp} {b : Addr} (s : Kp F H H') (h : H' b = none) (n : ¬ F b) : H b = none := by
  cases e : H b with
  | none => rfl
  | some o => rw [s.get e n] at h; cases h
theorem Kp.mono {F G : Addr → Prop} {H H' : Hp} (s : Kp F H H') (h : ∀ b, F b → G b ∨ H b = none) : Kp G H H' := fun b o e n => s b o e fun f => by
  rcases h b f with g | g
  · exact n g
  · rw [e] at g; cases g
theorem Kp.trans {F G : Addr → Prop} {H H1 H2 : Hp} (s : Kp F H H1) (t : Kp G H1 H2) (h : ∀ b, G b → F b ∨ H b = none) : Kp F H H2 := fun b o e n =>
  t b o (s b o e n) fun g => by
    rcases h b g with f | f
    · exact n f
    · rw [e] at f; cases f
theorem Kp.new {H : Hp} {p : Addr} {o : HO} (h : H p = none) : Kp F0 H (upd H p o) := fun b u e _ => by
  rw [upd_ne (ne_of_none e h)]
  exact e
theorem Kp.put {H : Hp} {l : Addr} {o u : HO} (h : H l = some u) (n : ¬ Fix u) : Kp (F1 l) H (upd H l o) := fun b v e k => by
  have nb : b ≠ l := fun z => by
    subst z; rw [h] at e; cases e
    exact n (k rfl)
  rw [upd_ne nb]
  exact e
theorem upd_id {H : Hp} {a : Addr} {o : HO} (h : H a = some o) : upd H a o = H := by
  funext b; unfold upd
  by_cases e : b = a
  · rw [if_pos e, e, h]
  · rw [if_neg e]
theorem Kp.same {H H' : Hp} (s : Same H H') : Kp F0 H H' := fun b o e _ => s b o e
theorem Kp.to_same {H H' : Hp} (s : Kp F0 H H') : Same H H' := fun b o e => s b o e fun z => z.elim
theorem Kp.sqT {F : Addr → Prop} {K : PySem.W.Frag} {H H' : Hp} {a : Addr} {xs : List V} (s : Kp F H H') (h : SqT K H a xs) : SqT K H' a xs := by
  rcases h with (h | ⟨o, h⟩) | h
  · exact .inl (.inl (s.fix h trivial))
  · exact .inl (.inr ⟨o, s.fix h trivial⟩)
  · exact .inr h
theorem Kp.sqL {F : Addr → Prop} {K : PySem.W.Frag} {H H' : Hp} {a : Addr} {xs : List V} (s : Kp F H H') (h : SqL K H a xs) (n : ¬ F a) : SqL K H' a xs := by
  rcases h with (h | ⟨o, h⟩) | h
  · exact .inl (.inl (s.get h n))
  · exact .inl (.inr ⟨o, s.fix h trivial⟩)
  · exact .inr h

/-- the script: read, never written -/
def Sc (K : PySem.W.Frag) (H : Hp) (sc : Addr) (ns : List Int) : Prop := (∃ o, H sc = some (.frz o (.lst (ns.map V.int)))) ∨ ∀ H', SqL K H' sc (ns.map V.int)
theorem Sc.sq {K : PySem.W.Frag} {H : Hp} {sc : Addr} {ns : List Int} (h : Sc K H sc ns) : SqL K H sc (ns.map V.int) := by
  rcases h with ⟨o, h⟩ | h
  · exact .inl (.inr ⟨o, h⟩)
  · exact h H
theorem Sc.kp {K : PySem.W.Frag} {F : Addr → Prop} {H H' : Hp} {sc : Addr} {ns : List Int} (s : Kp F H H') (h : Sc K H sc ns) : Sc K H' sc ns := by
  rcases h with ⟨o, h⟩ | h
  · exact .inl ⟨o, s.fix h trivial⟩
  · exact .inr h

theorem Sc.of {K : PySem.W.Frag} {H : Hp} {a : Addr} {ns : List Int} (o : Only H) (h : SqL K H a (ns.map V.int)) : Sc K H a ns := by
  rcases h with (h | ⟨f, h⟩) | h
  · rcases o a with e | ⟨f, xs, e⟩
    · rw [h] at e; cases e
    · rw [h] at e; cases e
  · exact .inl ⟨f, h⟩
  · exact .inr fun _ => .inr h
/-- a new list, a new tuple -/
def rNewL (xs : List V) (H : Hp) (Q : VK) : Prop := xs.length ≤ sizeLine ∧ ∀ p, H p = none → Q (.ref p) (upd H p (.lst xs))
def rNewT (xs : List V) (H : Hp) (Q : VK) : Prop := xs.length ≤ sizeLine ∧ ∀ p, H p = none → Q (.ref p) (upd H p (.tup xs))

/-! ### readings under names of our own, and the steps that run them -/
section
variable {K : PySem.W.Frag} {σ : L2.St} {H : Hp} {Q : VK} {D : Ends} {ta tb tc te : TE} {t u : TS} {tt tt' : TT} {x y z v : V} {i : Nat} {g : TG} {r r' : R2} {vs : List V} {a p : Addr}
theorem x_seq (h : t { D with nx := u D } σ H) : tSeq t u D σ H := h
theorem x_cut (M : L2.St → Hp → Prop) (h : t { D with nx := M } σ H) (h2 : ∀ σ' H', M σ' H' → u D σ' H') : C8.tCut t u D σ H := ⟨M, h, h2⟩
theorem x_next (h : D.nx σ H) : tNext D σ H := h
theorem x_asg (h : te σ H fun x H1 => g x σ H1 D.nx) : tAsg te g D σ H := h
theorem x_drop (h : te σ H fun _ H1 => D.nx σ H1) : tDrop te D σ H := h
theorem x_ret (h : te σ H D.rt) : tRet te D σ H := h
theorem x_retN (h : D.rt .non H) : tRetN D σ H := h
theorem x_ifS (h : tt σ H fun b H1 => if b = true then t D σ H1 else u D σ H1) : tIfS tt t u D σ H := h
theorem x_var (e : σ[i]? = some (some v)) (h : Q v H) : tVar i σ H Q := ⟨v, e, h⟩
theorem x_c (h : Q v H) : tC v σ H Q := h
theorem x_op (h : ta σ H fun x H1 => tb σ H1 fun y H2 => r x y H2 Q) : tOp r ta tb σ H Q := h
theorem x_un {r : V → Hp → VK → Prop} (h : ta σ H fun x H1 => r x H1 Q) : tUn r ta σ H Q := h
theorem x_neg {f : Int → V} {m : Int} (h : Q (f m) H) : rU f (.int m) H Q := ⟨m, rfl, h⟩
theorem x_I0 {f : Int → Int → V} {m n : Int} (h : Q (f m n) H) : rI0 f (.int m) (.int n) H Q := ⟨m, n, rfl, rfl, h⟩
theorem x_I {C : Int → Int → Prop} {f : Int → Int → V} {m n : Int} (c : C m n) (h : Q (f m n) H) : rI C f (.int m) (.int n) H Q := ⟨m, n, rfl, rfl, c, h⟩
theorem x_eqI {m n : Int} (h : Q (.bl (decide (m = n))) H) : rEq (.int m) (.int n) H Q := ⟨rfl, by rw [show decide (V.int m = V.int n) = decide (m = n) by simp]; exact h⟩
theorem x_neI {m n : Int} (h : Q (.bl (!decide (m = n))) H) : rNe (.int m) (.int n) H Q := ⟨rfl, by rw [show decide (V.int m = V.int n) = decide (m = n) by simp]; exact h⟩
theorem x_eqS {m n : Str} (h : Q (.bl (decide (m = n))) H) : rEq (.str m) (.str n) H Q := ⟨rfl, by rw [show decide (V.str m = V.str n) = decide (m = n) by simp]; exact h⟩
theorem x_neS {m n : Str} (h : Q (.bl (!decide (m = n))) H) : rNe (.str m) (.str n) H Q := ⟨rfl, by rw [show decide (V.str m = V.str n) = decide (m = n) by simp]; exact h⟩
theorem x_eqB {m n : Bool} (h : Q (.bl (decide (m = n))) H) : rEq (.bl m) (.bl n) H Q := ⟨rfl, by rw [show decide (V.bl m = V.bl n) = decide (m = n) by simp]; exact h⟩
theorem x_neB {m n : Bool} (h : Q (.bl (!decide (m = n))) H) : rNe (.bl m) (.bl n) H Q := ⟨rfl, by rw [show decide (V.bl m = V.bl n) = decide (m = n) by simp]; exact h⟩
theorem x_tst {R : Bool → Hp → Prop} (h : te σ H fun x H1 => ∃ k, x = .bl k ∧ R k H1) : tTest te σ H R := h
theorem x_tB {R : Bool → Hp → Prop} (h : te σ H fun x H1 => ∃ k, x = .bl k ∧ R k H1) : tB te σ H R := h
theorem x_bl {b : Bool} {R : Bool → Prop} (h : R b) : ∃ k, V.bl b = .bl k ∧ R k := ⟨b, rfl, h⟩
theorem x_ifNT {A B : Prop} (h : B) : if (!true) = true then A else B := h
theorem x_ifNF {A B : Prop} (h : A) : if (!false) = true then A else B := h
theorem x_yes {R : Bool → Hp → Prop} (h : R true H) : tYes σ H R := h
theorem x_ifTT {A B : Prop} (h : A) : if true = true then A else B := by rw [if_pos rfl]; exact h
theorem x_ifFF {A B : Prop} (h : B) : if false = true then A else B := by rw [if_neg Bool.false_ne_true]; exact h
theorem x_bnot {b : Bool} {R : Bool → Prop} (h : R (!b)) : ∃ k, V.bl (!b) = .bl k ∧ R k := ⟨_, rfl, h⟩
theorem x_and {R : Bool → Hp → Prop} (h : tt σ H fun c H1 => if c = true then tt' σ H1 R else R false H1) : tAnd tt tt' σ H R := h
theorem x_or {R : Bool → Hp → Prop} (h : tt σ H fun c H1 => if c = true then R true H1 else tt' σ H1 R) : tOr tt tt' σ H R := h
theorem x_not {R : Bool → Hp → Prop} (h : tt σ H fun c H1 => R (!c) H1) : tNot tt σ H R := h
theorem x_andV (h : ta σ H fun x H1 => ∃ c, x = .bl c ∧ if c = true then tb σ H1 Q else Q (.bl false) H1) : tAndV ta tb σ H Q := h
theorem x_orV (h : ta σ H fun x H1 => ∃ c, x = .bl c ∧ if c = true then Q (.bl true) H1 else tb σ H1 Q) : tOrV ta tb σ H Q := h
theorem x_notV (h : ta σ H fun x H1 => ∃ c, x = .bl c ∧ Q (.bl (!c)) H1) : tNotV ta σ H Q := h
theorem x_ifE (h : tt σ H fun c H1 => if c = true then ta σ H1 Q else tb σ H1 Q) : tIf tt ta tb σ H Q := h
theorem x_ch (h : ta σ H fun x H1 => tb σ H1 fun y H2 => r x y H2 fun z H3 => ∃ k, z = .bl k ∧ (if k = true then tc σ H3 fun w' H4 => r' y w' H4 Q else Q (.bl false) H3)) : tChain r r' ta tb tc σ H Q := h
theorem x_nil {R : List V → Hp → Prop} (h : R [] H) : tNil σ H R := h
theorem x_cons {tr : TA} {R : List V → Hp → Prop} (h : ta σ H fun x H1 => tr σ H1 fun xs H2 => R (x :: xs) H2) : tCons ta tr σ H R := h
theorem x_tup {ts : TA} (h : ts σ H fun xs H1 => rNewT xs H1 Q) : tTup ts σ H Q := h
theorem x_lst {ts : TA} (h : ts σ H fun xs H1 => rNewL xs H1 Q) : tLst ts σ H Q := h
theorem x_newL {xs : List V} (h : ∀ p H1, H p = none → Kp F0 H H1 → H1 p = some (.lst xs) → Q (.ref p) H1) (h1 : Nat.ble xs.length 1000 = true := by rfl) : rNewL xs H Q := ⟨Nat.le_trans (Nat.le_of_ble_eq_true h1) (by decide), fun p hp => h p _ hp (Kp.new hp) upd_same⟩
theorem x_newT {xs : List V} (h : ∀ p H1, H p = none → Kp F0 H H1 → H1 p = some (.tup xs) → Q (.ref p) H1) (h1 : Nat.ble xs.length 1000 = true := by rfl) : rNewT xs H Q := ⟨Nat.le_trans (Nat.le_of_ble_eq_true h1) (by decide), fun p hp => h p _ hp (Kp.new hp) upd_same⟩
theorem x_cb {rr : List V → Hp → VK → Prop} {ts : TA} (h : ts σ H fun vs H1 => rr vs H1 Q) : tCB rr ts σ H Q := h
theorem x_callS {sp : Sp} {E : L2.St → XK} {ts : TA} (h : ts σ H fun vs H1 => sp vs H1 Q (E σ)) : tCallS sp E ts σ H Q := h
theorem x_gn {R : L2.St → Hp → Prop} (h : R (σ.set i (some v)) H) : gName i v σ H R := h
/-- a[i], o[i] = v -/
theorem x_ixL {xs : List V} {j : Int} (h : SqL K H p xs) (e : atI xs j = some v) (q : Q v H) : rIxL K (.ref p) (.int j) H Q := ⟨p, xs, j, v, rfl, rfl, h, e, q⟩
theorem x_ixT {xs : List V} {j : Int} (h : SqT K H p xs) (e : atI xs j = some v) (q : Q v H) : rIxT K (.ref p) (.int j) H Q := ⟨p, xs, j, v, rfl, rfl, h, e, q⟩
theorem x_sub {R : L2.St → Hp → Prop} {s : TSet} (h : ta σ H fun o H1 => tb σ H1 fun i H2 => s o i v H2 fun H3 => R σ H3) : gSub ta tb s v σ H R := h
theorem x_setL {xs : List V} {k : Int} {j : Nat} {R : Hp → Prop} (h : H p = some (.lst xs)) (e : ixN xs.length k = some j) (q : R (upd H p (.lst (xs.set j v)))) : rSetL (.ref p) (.int k) v H R := ⟨p, xs, k, j, rfl, rfl, h, e, q⟩
end
/-- len(xs) -/
def rLenQ (K : PySem.W.Frag) : List V → Hp → VK → Prop := fun xs H Q => ∃ p ys, xs = [.ref p] ∧ (SqL K H p ys ∨ SqT K H p ys) ∧ Q (.int ys.length) H
theorem c_len {X : Cx} : CallR X (.builtin "len") (rLenQ X.K) := call_len_seq
theorem x_lenL {K : PySem.W.Frag} {H : Hp} {Q : VK} {p : Addr} {ys : List V} (h : SqL K H p ys) (q : Q (.int ys.length) H) : rLenQ K [.ref p] H Q := ⟨p, ys, rfl, .inl h, q⟩
theorem x_lenT {K : PySem.W.Frag} {H : Hp} {Q : VK} {p : Addr} {ys : List V} (h : SqT K H p ys) (q : Q (.int ys.length) H) : rLenQ K [.ref p] H Q := ⟨p, ys, rfl, .inr h, q⟩
/-- int(n), int(flag) -/
def rIntQ : List V → Hp → VK → Prop := fun xs H Q => (∃ i, xs = [.int i] ∧ Q (.int i) H) ∨ ∃ k, xs = [.bl k] ∧ Q (.int (if k then 1 else 0)) H
theorem c_int {X : Cx} : CallR X (.type "int") rIntQ := call_int1
theorem x_intI {H : Hp} {Q : VK} {i : Int} (q : Q (.int i) H) : rIntQ [.int i] H Q := .inl ⟨i, rfl, q⟩
theorem x_intB {H : Hp} {Q : VK} {k : Bool} (q : Q (.int (if k then 1 else 0)) H) : rIntQ [.bl k] H Q := .inr ⟨k, rfl, q⟩
theorem ite_dec {p : Prop} [Decidable p] {A B : Prop} (h1 : p → A) (h2 : ¬ p → B) : if decide p = true then A else B := by
  by_cases h : p
  · rw [if_pos (decide_eq_true h)]; exact h1 h
  · rw [if_neg (by simpa using h)]; exact h2 h
theorem ite_ndec {p : Prop} [Decidable p] {A B : Prop} (h1 : ¬ p → A) (h2 : p → B) : if (!decide p) = true then A else B := by
  by_cases h : p
  · rw [if_neg (by simp [h])]; exact h2 h
  · rw [if_pos (by simp [h])]; exact h1 h
theorem ite_bool {b : Bool} {A B : Prop} (h1 : b = true → A) (h2 : b = false → B) : if b = true then A else B := by
  cases b
  · rw [if_neg Bool.false_ne_true]; exact h2 rfl
  · rw [if_pos rfl]; exact h1 rfl
/-- an item by its place -/
theorem atI_at {α : Type} {xs : List α} {j : Int} {v : α} (k : Nat) (e : j = (k : Int)) (h : xs[k]? = some v) : atI xs j = some v := by subst e; exact atI_nat h
theorem ixN_at {n : Nat} {j : Int} (k : Nat) (e : j = (k : Int)) (h : k < n) : ixN n j = some k := by
  subst e; unfold ixN
  rw [if_pos (by omega), if_pos (by omega)]; rfl
theorem fdiv_ok {a n : Int} (h0 : 0 < n) (h1 : n < 2 ^ 64) : CDivW a n := wide_div (b := 64) h0 (by omega) (by decide) (by decide)

/-! ### loops -/
/-- J walks xs while G holds -/
structure Wk (J : It) (G : Hp → Prop) (xs : List V) : Prop where
  go : ∀ i H, i < xs.length → G H → J.go i H
  yld : ∀ i H x H', i < xs.length → G H → J.yld i H x H' → H = H' ∧ xs[i]? = some x
  stop : ∀ H, G H → J.stop xs.length H
theorem Wk.list {K : PySem.W.Frag} {a : Addr} {xs : List V} : Wk (Itl K a) (fun H => SqL K H a xs) xs where
  go := fun i H h g => ⟨xs, xs[i], g, by simp [h]⟩
  yld := fun i H x H' _ g y => ⟨y.1.symm, y.2 xs g⟩
  stop := fun H g => ⟨xs, g, Nat.le_refl _⟩
theorem Wk.tup {K : PySem.W.Frag} {a : Addr} {xs : List V} : Wk (Itt K a) (fun H => SqT K H a xs) xs where
  go := fun i H h g => ⟨xs, xs[i], g, by simp [h]⟩
  yld := fun i H x H' _ g y => ⟨y.1.symm, y.2 xs g⟩
  stop := fun H g => ⟨xs, g, Nat.le_refl _⟩
def rgl (lo : Int) (n : Nat) : List V := (List.range n).map fun i => V.int (lo + (i : Nat))
theorem rgl_len {lo : Int} {n : Nat} : (rgl lo n).length = n := by unfold rgl; simp
theorem rgl_at {lo : Int} {n i : Nat} {x : V} (h : (rgl lo n)[i]? = some x) : i < n ∧ x = .int (lo + (i : Nat)) := by
  unfold rgl at h
  rw [List.getElem?_map] at h
  by_cases hi : i < n
  · rw [List.getElem?_range hi] at h
    exact ⟨hi, (Option.some.inj h).symm⟩
  · rw [List.getElem?_eq_none (by simpa using hi)] at h
    cases h
theorem Wk.rng {lo : Int} {n : Nat} : Wk (Itr lo n) (fun _ => True) (rgl lo n) where
  go := fun i H h _ => by rw [rgl_len] at h; exact h
  yld := fun i H x H' h _ y => by
    rw [rgl_len] at h
    refine ⟨y.1.symm, ?_⟩
    unfold rgl
    rw [List.getElem?_map, List.getElem?_range h, y.2]; rfl
  stop := fun H _ => by show n ≤ _; rw [rgl_len]; exact Nat.le_refl _
theorem wfor {J : It} {G : Hp → Prop} {xs : List V} {g : TG} {tb : TS} {D : Ends} {σ : L2.St} {H : Hp} (W : Wk J G xs) (Pv : Nat → L2.St → Hp → Prop) (h0 : Pv 0 σ H) (hG : ∀ i σ H, Pv i σ H → G H)
    (hs : ∀ i x σ H, xs[i]? = some x → Pv i σ H → g x σ H fun σ2 H2 => tb { D with nx := Pv (i + 1), ct := Pv (i + 1), bk := D.nx } σ2 H2) (hd : ∀ σ H, Pv xs.length σ H → D.nx σ H) :
    ∃ W : Nat → Nat → L2.St → Hp → Prop, (∃ m, W 0 m σ H) ∧ ∀ i m σ H, W i m σ H →
      (J.stop i H ∧ D.nx σ H) ∨ (J.go i H ∧ ∃ N : L2.St → Hp → Prop, (∀ σ' H', N σ' H' → ∃ m', m' < m ∧ W (i + 1) m' σ' H') ∧ ∀ x H', J.yld i H x H' → g x σ H' fun σ2 H2 => tb { D with nx := N, ct := N, bk := D.nx } σ2 H2) := by
  refine ⟨fun i m σ H => m = xs.length - i ∧ i ≤ xs.length ∧ Pv i σ H, ⟨_, rfl, Nat.zero_le _, h0⟩, ?_⟩
  rintro i m σ H ⟨rfl, hi, p⟩
  by_cases hlt : i < xs.length
  · refine .inr ⟨W.go i H hlt (hG _ _ _ p), Pv (i + 1), fun σ' H' p' => ⟨xs.length - (i + 1), by omega, rfl, hlt, p'⟩, fun x H' y => ?_⟩
    obtain ⟨rfl, e⟩ := W.yld i H x H' hlt (hG _ _ _ p) y
    exact hs i x σ _ e p
  · obtain rfl : i = xs.length := by omega
    exact .inl ⟨W.stop H (hG _ _ _ p), hd σ H p⟩
/-- a comprehension: F what its turns may change, S what stays true of the heap, Pv of the list so far -/
theorem wlc {J : It} {G : Hp → Prop} {xs : List V} {g : TG} {tt : TT} {te : TE} {vs : List Nat} {σ : L2.St} {H0 : Hp} {Qd : Addr → Hp → Prop} (W : Wk J G xs) (F : Addr → Prop) (S : Hp → Prop) (Pv : Nat → List V → Prop)
    (hF : ∀ b, F b → H0 b ≠ none) (hz : xs.length ≤ 100000) (hG : ∀ H', S H' → Kp F H0 H' → G H') (h0 : Pv 0 []) (hS : S H0) (hSt : ∀ D, H0 D = none → ∀ H' o, (∀ u, H' D = some u → ¬ Fix u) → S H' → S (upd H' D o))
    (hs : ∀ i x acc H' (R : V → Hp → Prop) (R0 : Hp → Prop), xs[i]? = some x → Pv i acc → S H' → Kp F H0 H' → (∀ y H4, Kp F H' H4 → S H4 → Pv (i + 1) (acc ++ [y]) → R y H4) → (∀ H4, Kp F H' H4 → S H4 → Pv (i + 1) acc → R0 H4) →
      g x (wipe σ vs) H' fun σ2 H2 => wipe σ2 vs = wipe σ vs ∧ tt σ2 H2 fun b H3 => if b = true then te σ2 H3 R else R0 H3)
    (hd : ∀ D H' acc, H0 D = none → H' D = some (.lst acc) → Pv xs.length acc → S H' → Kp F H0 H' → Qd D H') :
    ∀ D, H0 D = none → ∃ W : Nat → Nat → Hp → Prop, (∃ m, W 0 m (upd H0 D (.lst []))) ∧ ∀ i m H, W i m H →
      (J.stop i H ∧ Qd D H) ∨ (J.go i H ∧ ∃ Nx : Hp → Prop, (∀ H', Nx H' → ∃ m', m' < m ∧ W (i + 1) m' H') ∧ ∀ x H', J.yld i H x H' → g x (wipe σ vs) H' fun σ2 H2 => wipe σ2 vs = wipe σ vs ∧ tt σ2 H2 fun b H3 =>
        if b = true then te σ2 H3 fun y H4 => ∃ acc, H4 D = some (.lst acc) ∧ acc.length < sizeLine ∧ Nx (upd H4 D (.lst (acc ++ [y]))) else Nx H3) := by
  intro D hD
  have nFD : ¬ F D := fun z => hF D z hD
  refine ⟨fun i m H' => m = xs.length - i ∧ i ≤ xs.length ∧ ∃ acc, H' D = some (.lst acc) ∧ acc.length ≤ i ∧ Pv i acc ∧ S H' ∧ Kp F H0 H',
    ⟨_, rfl, Nat.zero_le _, [], upd_same, Nat.le_refl _, h0, hSt D hD _ _ (fun u z => by rw [hD] at z; cases z) hS, (Kp.new hD).mono fun b z => z.elim⟩, ?_⟩
  rintro i m H ⟨rfl, hi, acc, hacc, hl, p, hSH, kp⟩
  by_cases hlt : i < xs.length
  · refine .inr ⟨W.go i H hlt (hG _ hSH kp), _, fun H' z => ⟨xs.length - (i + 1), by omega, z⟩, fun x H' y => ?_⟩
    obtain ⟨rfl, e⟩ := W.yld i H x H' hlt (hG _ hSH kp) y
    refine hs i x acc _ _ _ e p hSH kp (fun y H4 k4 s4 p4 => ?_) (fun H4 k4 s4 p4 => ?_)
    · refine ⟨acc, k4.get hacc nFD, Nat.lt_of_le_of_lt (Nat.le_trans hl (Nat.le_trans hi hz)) (by decide), rfl, hlt, acc ++ [y], upd_same, by rw [List.length_append, List.length_singleton]; omega, p4, hSt D hD _ _ (fun u z => by rw [k4.get hacc nFD] at z; cases z; exact id) s4, ?_⟩
      intro b o hb n
      rw [upd_ne (ne_of_none hb hD)]
      exact k4 b o (kp b o hb n) n
    · exact ⟨rfl, hlt, acc, k4.get hacc nFD, by omega, p4, s4, fun b o hb n => k4 b o (kp b o hb n) n⟩
  · obtain rfl : i = xs.length := by omega
    exact .inl ⟨W.stop H (hG _ hSH kp), hd D H acc hD hacc p hSH kp⟩
/-- a comprehension that changes nothing and keeps all: the list ys comes -/
theorem wlcP {J : It} {G : Hp → Prop} {xs ys : List V} {g : TG} {te : TE} {vs : List Nat} {σ : L2.St} {H0 : Hp} {Qd : Addr → Hp → Prop} (W : Wk J G xs) (hl : ys.length = xs.length) (hz : xs.length ≤ 100000) (hG : ∀ H', Kp F0 H0 H' → G H')
    (hs : ∀ (i : Nat) x y H' (R : V → Hp → Prop), xs[i]? = some x → ys[i]? = some y → Kp F0 H0 H' → (∀ H4, Kp F0 H' H4 → R y H4) → g x (wipe σ vs) H' fun σ2 H2 => wipe σ2 vs = wipe σ vs ∧ te σ2 H2 R)
    (hd : ∀ D H', H0 D = none → Kp F0 H0 H' → H' D = some (.lst ys) → Qd D H') :
    ∀ D, H0 D = none → ∃ W : Nat → Nat → Hp → Prop, (∃ m, W 0 m (upd H0 D (.lst []))) ∧ ∀ i m H, W i m H →
      (J.stop i H ∧ Qd D H) ∨ (J.go i H ∧ ∃ Nx : Hp → Prop, (∀ H', Nx H' → ∃ m', m' < m ∧ W (i + 1) m' H') ∧ ∀ x H', J.yld i H x H' → g x (wipe σ vs) H' fun σ2 H2 => wipe σ2 vs = wipe σ vs ∧ tYes σ2 H2 fun b H3 =>
        if b = true then te σ2 H3 fun y H4 => ∃ acc, H4 D = some (.lst acc) ∧ acc.length < sizeLine ∧ Nx (upd H4 D (.lst (acc ++ [y]))) else Nx H3) := by
  refine wlc W F0 (fun _ => True) (fun i acc => acc = ys.take i) (fun b z => z.elim) hz (fun H' _ k => hG H' k) rfl trivial (fun _ _ _ _ _ _ => trivial) (fun i x acc H' R R0 e p _ kp h1 _ => ?_) (fun D H' acc hD hacc p _ kp => hd D H' hD kp (by rw [hacc, p, ← hl, List.take_length]))
  have hi : i < ys.length := by rw [hl]; exact (List.getElem?_eq_some_iff.mp e).1
  refine hs i x ys[i] H' R e (by simp [hi]) kp fun H4 k4 => h1 _ _ k4 trivial ?_
  rw [p, List.take_succ, List.getElem?_eq_getElem hi]; rfl

section
variable {K : PySem.W.Frag} {σ : L2.St} {H : Hp} {Q : VK} {D : Ends} {ta tb tc te : TE} {t u : TS} {tt tt' : TT} {x y z v : V} {i : Nat} {g : TG} {a p : Addr} {wi : TI} {ts : TA} {R : It → Hp → Prop}
theorem x_for (h : wi σ H fun J H1 => ∃ W : Nat → Nat → L2.St → Hp → Prop, (∃ m, W 0 m σ H1) ∧ ∀ i m σ H, W i m σ H →
    (J.stop i H ∧ D.nx σ H) ∨ (J.go i H ∧ ∃ N : L2.St → Hp → Prop, (∀ σ' H', N σ' H' → ∃ m', m' < m ∧ W (i + 1) m' σ' H') ∧ ∀ x H', J.yld i H x H' → g x σ H' fun σ2 H2 => t { D with nx := N, ct := N, bk := D.nx } σ2 H2)) : tFor wi g t D σ H := h
theorem x_lc {vs : List Nat} (h : wi σ H fun J H1 => ∀ D, H1 D = none → ∃ W : Nat → Nat → Hp → Prop, (∃ m, W 0 m (upd H1 D (.lst []))) ∧ ∀ i m H, W i m H →
    (J.stop i H ∧ Q (.ref D) H) ∨ (J.go i H ∧ ∃ Nx : Hp → Prop, (∀ H', Nx H' → ∃ m', m' < m ∧ W (i + 1) m' H') ∧ ∀ x H', J.yld i H x H' → g x (wipe σ vs) H' fun σ2 H2 => wipe σ2 vs = wipe σ vs ∧ tt σ2 H2 fun b H3 =>
      if b = true then te σ2 H3 fun y H4 => ∃ acc, H4 D = some (.lst acc) ∧ acc.length < sizeLine ∧ Nx (upd H4 D (.lst (acc ++ [y]))) else Nx H3)) : tLc wi g tt te vs σ H Q := h
theorem x_rng1 (h : ts σ H fun vs H1 => ∃ j : Int, vs = [.int j] ∧ -(2 ^ 62) ≤ j ∧ j < 2 ^ 62 ∧ R (Itr 0 j.toNat) H1) : iRng1 ts σ H R := h
theorem x_rg1 {S : Int → Prop} {n : Int} (h1 : -(2 ^ 62) ≤ n) (h2 : n < 2 ^ 62) (h : S n) : ∃ j : Int, [V.int n] = [.int j] ∧ -(2 ^ 62) ≤ j ∧ j < 2 ^ 62 ∧ S j := ⟨n, rfl, h1, h2, h⟩
theorem x_rng2 (h : ts σ H fun vs H1 => ∃ i j : Int, vs = [.int i, .int j] ∧ (-(2 ^ 62) ≤ i ∧ i < 2 ^ 62 ∧ -(2 ^ 62) ≤ j ∧ j < 2 ^ 62) ∧ R (Itr i (j - i).toNat) H1) : iRng2 ts σ H R := h
theorem x_rg2 {S : Int → Int → Prop} {m n : Int} (h1 : -(2 ^ 62) ≤ m ∧ m < 2 ^ 62 ∧ -(2 ^ 62) ≤ n ∧ n < 2 ^ 62) (h : S m n) : ∃ i j : Int, [V.int m, V.int n] = [.int i, .int j] ∧ (-(2 ^ 62) ≤ i ∧ i < 2 ^ 62 ∧ -(2 ^ 62) ≤ j ∧ j < 2 ^ 62) ∧ S i j := ⟨m, n, rfl, h1, h⟩
theorem x_iL (h : te σ H fun x H1 => ∃ a, x = .ref a ∧ (∃ xs, SqL K H1 a xs) ∧ R (Itl K a) H1) : iList K te σ H R := h
theorem x_iL1 {xs : List V} {S : Addr → Prop} (h : SqL K H a xs) (q : S a) : ∃ b, V.ref a = .ref b ∧ (∃ xs, SqL K H b xs) ∧ S b := ⟨a, rfl, ⟨xs, h⟩, q⟩
theorem x_iT (h : te σ H fun x H1 => ∃ a, x = .ref a ∧ (∃ xs, SqT K H1 a xs) ∧ R (Itt K a) H1) : iTup K te σ H R := h
theorem x_iT1 {xs : List V} {S : Addr → Prop} (h : SqT K H a xs) (q : S a) : ∃ b, V.ref a = .ref b ∧ (∃ xs, SqT K H b xs) ∧ S b := ⟨a, rfl, ⟨xs, h⟩, q⟩
theorem x_sum {ns : List Int} (h : SqL K H a (ns.map V.int)) (q : Q (.int ns.sum) H) : rSum K [.ref a] H Q := ⟨a, ns, rfl, h, q⟩
theorem x_max {ns : List Int} (h : SqL K H a (ns.map V.int)) (h0 : 0 < ns.length) (q : ∀ m, m ∈ ns → (∀ y, y ∈ ns → y ≤ m) → Q (.int m) H) : rMax K [.ref a] H Q := ⟨a, ns, rfl, h, h0, q⟩
theorem x_min {ns : List Int} (h : SqL K H a (ns.map V.int)) (h0 : 0 < ns.length) (q : ∀ m, m ∈ ns → (∀ y, y ∈ ns → m ≤ y) → Q (.int m) H) : rMin K [.ref a] H Q := ⟨a, ns, rfl, h, h0, q⟩
end
/-- abs, max, min of two -/
def rAbsQ : List V → Hp → VK → Prop := fun xs H Q => ∃ i, xs = [.int i] ∧ Q (.int (if i < 0 then -i else i)) H
theorem c_abs {X : Cx} : CallR X (.builtin "abs") rAbsQ := call_abs
theorem x_abs {H : Hp} {Q : VK} {i : Int} (q : Q (.int (if i < 0 then -i else i)) H) : rAbsQ [.int i] H Q := ⟨i, rfl, q⟩
def rMax2Q : List V → Hp → VK → Prop := fun xs H Q => ∃ i j, xs = [.int i, .int j] ∧ Q (.int (if j > i then j else i)) H
theorem c_max2 {X : Cx} (hc : X.calm = true) : CallR X (.builtin "max") rMax2Q := call_max2 hc
theorem x_max2 {H : Hp} {Q : VK} {i j : Int} (q : Q (.int (max i j)) H) : rMax2Q [.int i, .int j] H Q := ⟨i, j, rfl, by rw [show (if j > i then j else i) = max i j by split <;> omega]; exact q⟩
def rMin2Q : List V → Hp → VK → Prop := fun xs H Q => ∃ i j, xs = [.int i, .int j] ∧ Q (.int (if j < i then j else i)) H
theorem c_min2 {X : Cx} (hc : X.calm = true) : CallR X (.builtin "min") rMin2Q := call_min2 hc
theorem x_min2 {H : Hp} {Q : VK} {i j : Int} (q : Q (.int (min i j)) H) : rMin2Q [.int i, .int j] H Q := ⟨i, j, rfl, by rw [show (if j < i then j else i) = min i j by split <;> omega]; exact q⟩
/-- list(xs), tuple(xs) -/
def rLstQ (K : PySem.W.Frag) : List V → Hp → VK → Prop := fun xs H Q => ∃ p ys, xs = [.ref p] ∧ (SqL K H p ys ∨ SqT K H p ys) ∧ ∀ l, H l = none → Q (.ref l) (upd H l (.lst ys))
theorem c_list {X : Cx} : CallR X (.type "list") (rLstQ X.K) := call_list_of
theorem x_lstL {K : PySem.W.Frag} {H : Hp} {Q : VK} {p : Addr} {ys : List V} (h : SqL K H p ys) (q : ∀ l H1, H l = none → Kp F0 H H1 → H1 l = some (.lst ys) → Q (.ref l) H1) : rLstQ K [.ref p] H Q := ⟨p, ys, rfl, .inl h, fun l hl => q l _ hl (Kp.new hl) upd_same⟩
theorem x_lstT {K : PySem.W.Frag} {H : Hp} {Q : VK} {p : Addr} {ys : List V} (h : SqT K H p ys) (q : ∀ l H1, H l = none → Kp F0 H H1 → H1 l = some (.lst ys) → Q (.ref l) H1) : rLstQ K [.ref p] H Q := ⟨p, ys, rfl, .inr h, fun l hl => q l _ hl (Kp.new hl) upd_same⟩
def rTupQ (K : PySem.W.Frag) : List V → Hp → VK → Prop := fun xs H Q => ∃ p ys, xs = [.ref p] ∧ ((SqL K H p ys ∧ ∀ l, H l = none → Q (.ref l) (upd H l (.tup ys))) ∨ (SqT K H p ys ∧ Q (.ref p) H))
theorem c_tuple {X : Cx} : CallR X (.type "tuple") (rTupQ X.K) := call_tuple_of
theorem x_tupL {K : PySem.W.Frag} {H : Hp} {Q : VK} {p : Addr} {ys : List V} (h : SqL K H p ys) (q : ∀ l H1, H l = none → Kp F0 H H1 → H1 l = some (.tup ys) → Q (.ref l) H1) : rTupQ K [.ref p] H Q := ⟨p, ys, rfl, .inl ⟨h, fun l hl => q l _ hl (Kp.new hl) upd_same⟩⟩
theorem x_tupT {K : PySem.W.Frag} {H : Hp} {Q : VK} {p : Addr} {ys : List V} (h : SqT K H p ys) (q : Q (.ref p) H) : rTupQ K [.ref p] H Q := ⟨p, ys, rfl, .inr ⟨h, q⟩⟩
/-- isinstance of an int -/
theorem x_isi {K : PySem.W.Frag} {H : Hp} {Q : VK} {i : Int} {T : String} {b : Bool} (hk : PySem.W.kitOne K (.type "int") (.type T) = some b) (q : Q (.bl b) H) : rIsi K [.int i, .ty T] H Q := ⟨_, _, _, _, b, rfl, .ty T, .base (.int i), hk, q⟩
theorem x_isiI {K : PySem.W.Frag} {H : Hp} {Q : VK} {i : Int} (q : Q (.bl true) H) : rIsi K [.int i, .ty "int"] H Q := x_isi (kit_ty (by decide +kernel)) q
theorem x_isiB {K : PySem.W.Frag} {H : Hp} {Q : VK} {i : Int} (q : Q (.bl false) H) : rIsi K [.int i, .ty "bool"] H Q := x_isi (kit_ty (by decide +kernel)) q
/-- bytes of a slice: a new list -/
theorem x_sl {σ : L2.St} {H : Hp} {Q : VK} {te : TE} {tl th : TO} {r : V → Option Int → Option Int → Hp → VK → Prop} (h : te σ H fun x H1 => tl σ H1 fun l H2 => th σ H2 fun u H3 => r x l u H3 Q) : L2.tSl r te tl th σ H Q := h
theorem x_part {σ : L2.St} {H : Hp} {Q : Option Int → Hp → Prop} {te : TE} (h : te σ H fun x H1 => ∃ i, x = .int i ∧ Q (some i) H1) : tPart te σ H Q := h
theorem x_part1 {S : Int → Prop} {i : Int} (h : S i) : ∃ j, V.int i = .int j ∧ S j := ⟨i, rfl, h⟩
theorem x_nopart {σ : L2.St} {H : Hp} {Q : Option Int → Hp → Prop} (h : Q none H) : tNoPart σ H Q := h
theorem x_slL {K : PySem.W.Frag} {H : Hp} {Q : VK} {p : Addr} {xs : List V} {lo hi : Option Int} (h : SqL K H p xs) (q : ∀ l H1, H l = none → Kp F0 H H1 → H1 l = some (.lst (cutV xs lo hi)) → Q (.ref l) H1) : rSlL K (.ref p) lo hi H Q := ⟨p, xs, rfl, h, fun l hl => q l _ hl (Kp.new hl) upd_same⟩
theorem x_slT {K : PySem.W.Frag} {H : Hp} {Q : VK} {p : Addr} {xs : List V} {lo hi : Option Int} (h : SqT K H p xs) (q : ∀ l H1, Kp F0 H H1 → SqT K H1 l (cutV xs lo hi) → Q (.ref l) H1) : rSlA K (.ref p) lo hi H Q :=
  ⟨p, xs, rfl, h, fun e => q p H (Kp.refl _) (by rw [show cutV xs lo hi = xs by unfold cutV; rw [e.1, e.2]; simp]; exact h), fun _ l hl => q l _ (Kp.new hl) (SqT.of upd_same)⟩
theorem x_catT {K : PySem.W.Frag} {H : Hp} {Q : VK} {a b : Addr} {xs ys : List V} (ha : SqT K H a xs) (hb : SqT K H b ys) (hz : xs.length + ys.length ≤ 100000) (q : ∀ l H1, Kp F0 H H1 → SqT K H1 l (xs ++ ys) → Q (.ref l) H1) : rCatA K (.ref a) (.ref b) H Q :=
  ⟨a, b, xs, ys, rfl, rfl, ha, hb, Nat.le_trans hz (by decide), fun e => q b H (Kp.refl _) (by rw [e]; exact hb), fun _ e => q a H (Kp.refl _) (by rw [e, List.append_nil]; exact ha), fun _ _ l hl => q l _ (Kp.new hl) (SqT.of upd_same)⟩
theorem x_catL {H : Hp} {Q : VK} {a b : Addr} {xs ys : List V} (ha : H a = some (.lst xs)) (hb : H b = some (.lst ys)) (hz : xs.length + ys.length ≤ sizeLine) (q : ∀ l H1, H l = none → Kp F0 H H1 → H1 l = some (.lst (xs ++ ys)) → Q (.ref l) H1) : rCat (.ref a) (.ref b) H Q :=
  ⟨a, b, xs, ys, rfl, rfl, ha, hb, hz, fun l hl => q l _ hl (Kp.new hl) upd_same⟩
/-- data compared -/
theorem x_eqD {K : PySem.W.Frag} {H : Hp} {Q : VK} {x y : V} {d e : PyData} (hx : Dp K H x d) (hy : Dp K H y e) (s1 : SeqAt.shaped d = true) (s2 : SeqAt.shaped e = true) (q : Q (.bl (PyData.eqv d e)) H) : rEqD K x y H Q := ⟨d, e, hx, hy, s1, s2, q⟩
theorem x_neD {K : PySem.W.Frag} {H : Hp} {Q : VK} {x y : V} {d e : PyData} (hx : Dp K H x d) (hy : Dp K H y e) (s1 : SeqAt.shaped d = true) (s2 : SeqAt.shaped e = true) (q : Q (.bl (!PyData.eqv d e)) H) : rNeD K x y H Q := ⟨d, e, hx, hy, s1, s2, q⟩

/-! ### data of ints and texts: equal as data, equal -/
mutual
def nb : PyData → Bool
  | .none => true
  | .bool _ => false
  | .int _ => true
  | .str _ => true
  | .list xs => nbAll xs
  | .tuple xs => nbAll xs
  | .dict _ => false
def nbAll : List PyData → Bool
  | [] => true
  | x :: xs => nb x && nbAll xs
end
mutual
theorem eqv_nb : ∀ d e : PyData, nb d = true → nb e = true → (PyData.eqv d e = true ↔ d = e)
  | .none, e, _, h => by cases e <;> first | (simp [nb] at h; done) | simp [PyData.eqv]
  | .int i, e, _, h => by cases e <;> first | (simp [nb] at h; done) | simp [PyData.eqv]
  | .str i, e, _, h => by cases e <;> first | (simp [nb] at h; done) | simp [PyData.eqv]
  | .list xs, e, g, h => by
    cases e with
    | list ys => rw [show PyData.eqv (.list xs) (.list ys) = PyData.eqvAll xs ys by simp [PyData.eqv], eqvAll_nb xs ys (by simpa [nb] using g) (by simpa [nb] using h)]; simp
    | bool b => simp [nb] at h
    | dict b => simp [nb] at h
    | _ => simp [PyData.eqv]
  | .tuple xs, e, g, h => by
    cases e with
    | tuple ys => rw [show PyData.eqv (.tuple xs) (.tuple ys) = PyData.eqvAll xs ys by simp [PyData.eqv], eqvAll_nb xs ys (by simpa [nb] using g) (by simpa [nb] using h)]; simp
    | bool b => simp [nb] at h
    | dict b => simp [nb] at h
    | _ => simp [PyData.eqv]
  | .bool _, _, g, _ => by simp [nb] at g
  | .dict _, _, g, _ => by simp [nb] at g
theorem eqvAll_nb : ∀ xs ys : List PyData, nbAll xs = true → nbAll ys = true → (PyData.eqvAll xs ys = true ↔ xs = ys)
  | [], [], _, _ => by simp [PyData.eqvAll]
  | [], _ :: _, _, _ => by simp [PyData.eqvAll]
  | _ :: _, [], _, _ => by simp [PyData.eqvAll]
  | x :: xs, y :: ys, g, h => by
    simp only [nbAll, Bool.and_eq_true] at g h
    simp only [PyData.eqvAll, Bool.and_eq_true, List.cons.injEq]
    rw [eqv_nb x y g.1 h.1, eqvAll_nb xs ys g.2 h.2]
end
theorem eqv_dec {d e : PyData} (h1 : nb d = true) (h2 : nb e = true) {p : Prop} [Decidable p] (h : d = e ↔ p) : PyData.eqv d e = decide p := by
  rw [Bool.eq_iff_iff, eqv_nb d e h1 h2, h, decide_eq_true_iff]
/-- data whose rows are shaped -/
def Sh (n : Nat) (d : PyData) : Prop := d.canLay0 = true ∧ d.depth ≤ n ∧ nb d = true
theorem Sh.shaped {n : Nat} {d : PyData} (h : Sh n d) (hn : n ≤ 64 := by decide) : SeqAt.shaped d = true := by
  unfold SeqAt.shaped
  rw [h.1, decide_eq_true (Nat.le_trans h.2.1 hn)]; rfl
theorem Sh.int (i : Int) : Sh 0 (.int i) := ⟨by simp [PyData.canLay0], by simp [PyData.depth], by simp [nb]⟩
theorem sh_all {n : Nat} : ∀ {ds : List PyData}, (∀ d ∈ ds, Sh n d) → PyData.canLayAll0 ds = true ∧ PyData.depthAll ds ≤ n ∧ nbAll ds = true
  | [], _ => ⟨by simp [PyData.canLayAll0], by simp [PyData.depthAll], by simp [nbAll]⟩
  | d :: ds, h => by
    have h1 := h d (by simp)
    have h2 := sh_all (ds := ds) fun x hx => h x (List.mem_cons_of_mem _ hx)
    exact ⟨by simp [PyData.canLayAll0, h1.1, h2.1], by simp only [PyData.depthAll]; have := h1.2.1; have := h2.2.1; omega, by simp [nbAll, h1.2.2, h2.2.2]⟩
theorem Sh.list {n : Nat} {ds : List PyData} (h : ∀ d ∈ ds, Sh n d) : Sh (n + 1) (.list ds) := by
  have q := sh_all h
  exact ⟨by simp [PyData.canLay0, q.1], by simp only [PyData.depth]; have := q.2.1; omega, by simp [nb, q.2.2]⟩
theorem Sh.tuple {n : Nat} {ds : List PyData} (h : ∀ d ∈ ds, Sh n d) : Sh (n + 1) (.tuple ds) := by
  have q := sh_all h
  exact ⟨by simp [PyData.canLay0, q.1], by simp only [PyData.depth]; have := q.2.1; omega, by simp [nb, q.2.2]⟩
theorem sh_ints (ns : List Int) : ∀ d ∈ ns.map PyData.int, Sh 0 d := fun d h => by
  obtain ⟨i, _, rfl⟩ := List.mem_map.mp h
  exact Sh.int i
theorem map_int_inj : ∀ {ns ms : List Int}, ns.map PyData.int = ms.map PyData.int ↔ ns = ms
  | [], [] => by simp
  | [], _ :: _ => by simp
  | _ :: _, [] => by simp
  | n :: ns, m :: ms => by simp [map_int_inj (ns := ns) (ms := ms)]
theorem dp_ints {K : PySem.W.Frag} {H : Hp} : ∀ ns : List Int, DpAll K H (ns.map V.int) (ns.map PyData.int)
  | [] => .nil
  | n :: ns => .cons (.int n) (dp_ints ns)
theorem x_eqLI {K : PySem.W.Frag} {H : Hp} {Q : VK} {a b : Addr} {ns ms : List Int} (ha : SqL K H a (ns.map V.int)) (hb : SqL K H b (ms.map V.int)) (q : Q (.bl (decide (ns = ms))) H) : rEqD K (.ref a) (.ref b) H Q :=
  x_eqD (.lst ha (dp_ints _)) (.lst hb (dp_ints _)) (Sh.list (sh_ints _)).shaped (Sh.list (sh_ints _)).shaped (by rw [eqv_dec (p := ns = ms) (Sh.list (sh_ints _)).2.2 (Sh.list (sh_ints _)).2.2 (by simp [map_int_inj])]; exact q)
theorem x_neLI {K : PySem.W.Frag} {H : Hp} {Q : VK} {a b : Addr} {ns ms : List Int} (ha : SqL K H a (ns.map V.int)) (hb : SqL K H b (ms.map V.int)) (q : Q (.bl (!decide (ns = ms))) H) : rNeD K (.ref a) (.ref b) H Q :=
  x_neD (.lst ha (dp_ints _)) (.lst hb (dp_ints _)) (Sh.list (sh_ints _)).shaped (Sh.list (sh_ints _)).shaped (by rw [eqv_dec (p := ns = ms) (Sh.list (sh_ints _)).2.2 (Sh.list (sh_ints _)).2.2 (by simp [map_int_inj])]; exact q)
theorem x_eqTI {K : PySem.W.Frag} {H : Hp} {Q : VK} {a b : Addr} {ns ms : List Int} (ha : SqT K H a (ns.map V.int)) (hb : SqT K H b (ms.map V.int)) (q : Q (.bl (decide (ns = ms))) H) : rEqD K (.ref a) (.ref b) H Q :=
  x_eqD (.tup ha (dp_ints _)) (.tup hb (dp_ints _)) (Sh.tuple (sh_ints _)).shaped (Sh.tuple (sh_ints _)).shaped (by rw [eqv_dec (p := ns = ms) (Sh.tuple (sh_ints _)).2.2 (Sh.tuple (sh_ints _)).2.2 (by simp [map_int_inj])]; exact q)
theorem x_neTI {K : PySem.W.Frag} {H : Hp} {Q : VK} {a b : Addr} {ns ms : List Int} (ha : SqT K H a (ns.map V.int)) (hb : SqT K H b (ms.map V.int)) (q : Q (.bl (!decide (ns = ms))) H) : rNeD K (.ref a) (.ref b) H Q :=
  x_neD (.tup ha (dp_ints _)) (.tup hb (dp_ints _)) (Sh.tuple (sh_ints _)).shaped (Sh.tuple (sh_ints _)).shaped (by rw [eqv_dec (p := ns = ms) (Sh.tuple (sh_ints _)).2.2 (Sh.tuple (sh_ints _)).2.2 (by simp [map_int_inj])]; exact q)

/-! ### rules with the written part named -/
section
variable {X : Cx} {K : PySem.W.Frag} {e o : Expr} {es : List Expr} {ta to te : TE} {f name : Str} {pos apos cpos : Pos} {t : TA} {T id : String} {r : V → List V → Hp → VK → Prop} {tg l : Expr} {gs : TGs}
theorem pe_fldK (hK : X.K = K) (he : PE X e ta) (hb : attributeBase e f X.env (eval e X.env) = eval e X.env := by rfl) : PE X (.Attribute e f pos) (tFld K ta f) := by subst hK; exact pe_fld he hb
theorem pe_kBM (hK : X.K = K) (h : PE X e (tBM X.K T r to t)) : PE X e (tBM K T r to t) := by subst hK; exact h
theorem pe_kBM0 (hK : X.K = K) (h : PE X e (tBM0 X.K T r to)) : PE X e (tBM0 K T r to) := by subst hK; exact h
theorem pg_kT {k : Nat} (hK : X.K = K) (h : PG X tg (gTup X.K k gs)) : PG X tg (gTup K k gs) := by subst hK; exact h
theorem pi_listK (hK : X.K = K) (h : PE X l te) : PI X tg l (iList K te) := by subst hK; exact pi_list h
theorem pi_tupK (hK : X.K = K) (h : PE X l te) : PI X tg l (iTup K te) := by subst hK; exact pi_tup h
end

/-- what every law promises: True -/
def sp_law (K : PySem.W.Frag) : Sp := fun vs H Q _ => ∃ (a : Addr) (ns : List Int), vs = [.ref a] ∧ Sc K H a ns ∧ ns.length ≤ 63 ∧ ∀ H', Q (.bl true) H'
theorem tup_K {K : PySem.W.Frag} {H : Hp} {a : Addr} {dd : Option Addr} {us : List Value} {n : Nat} {sl : Array (Option Value)} {xs : List V} (h : K.lookup a = some ⟨.type "tuple", dd, .seq us.toArray n, sl⟩) (r : Vals xs us) (z : us.length ≤ 1000 := by exact Nat.le_of_ble_eq_true rfl) : SqT K H a xs :=
  .inr ⟨_, us.toArray, n, h, rfl, rfl, Nat.le_trans (by simpa using z) (by decide : 1000 ≤ sizeLine), r⟩

/-! ### methods of lists, targets -/
section
variable {K : PySem.W.Frag} {σ : L2.St} {H : Hp} {Q : VK} {to te : TE} {ts : TA} {T : String} {r : V → List V → Hp → VK → Prop} {l b p a : Addr} {xs zs : List V} {y v : V}
theorem x_bm (h : to σ H fun x H1 => tyV K T x H1 ∧ ts σ H1 fun xs H2 => r x xs H2 Q) : tBM K T r to ts σ H Q := h
theorem x_bm0 (h : to σ H fun x H1 => tyV K T x H1 ∧ r x [] H1 Q) : tBM0 K T r to σ H Q := h
theorem x_ty {B : Prop} (h : H p = some (.lst xs)) (q : B) : tyV K "list" (.ref p) H ∧ B := ⟨.inl ⟨rfl, _, SqL.of h⟩, q⟩
theorem x_app (h : H l = some (.lst xs)) (hz : xs.length < 16777216) (q : ∀ H1, H1 l = some (.lst (xs ++ [y])) → Kp (F1 l) H H1 → Q .non H1) : rAppend (.ref l) [y] H Q :=
  ⟨l, xs, y, rfl, rfl, h, Nat.lt_of_lt_of_le hz (by decide), q _ upd_same (Kp.put h id)⟩
theorem x_ext (h : H l = some (.lst xs)) (hb : H b = some (.lst zs)) (hz : xs.length + zs.length ≤ 16777216) (q : ∀ H1, H1 l = some (.lst (xs ++ zs)) → Kp (F1 l) H H1 → Q .non H1) : rExtend (.ref l) [.ref b] H Q :=
  ⟨l, b, xs, zs, rfl, rfl, h, hb, Nat.le_trans hz (by decide), q _ upd_same (Kp.put h id)⟩
theorem x_all {bs : List Bool} (h : SqL K H a (bs.map V.bl)) (q : Q (.bl (bs.all id)) H) : rAll K [.ref a] H Q := ⟨a, bs, rfl, h, q⟩
theorem x_any {bs : List Bool} (h : SqL K H a (bs.map V.bl)) (q : Q (.bl (bs.any id)) H) : rAny K [.ref a] H Q := ⟨a, bs, rfl, h, q⟩
theorem x_gt {n : Nat} {g : TGs} {R : L2.St → Hp → Prop} (h : SqT K H a xs) (hn : xs.length = n) (q : g xs σ H R) : gTup K n g (.ref a) σ H R := ⟨a, xs, rfl, h, hn, q⟩
theorem x_gc {t : TG} {u : TGs} {R : L2.St → Hp → Prop} (q : t v σ H fun σ' H' => u xs σ' H' R) : gCons t u (v :: xs) σ H R := ⟨v, xs, rfl, q⟩
theorem x_g0 {R : L2.St → Hp → Prop} (q : R σ H) : gNil [] σ H R := ⟨rfl, q⟩
theorem x_isiT {S : String} {b : Bool} (h : SqT K H a xs) (ht : TyX K H (.ref a) (.type "tuple")) (hk : PySem.W.kitOne K (.type "tuple") (.type S) = some b) (q : Q (.bl b) H) : rIsi K [.ref a, .ty S] H Q := ⟨_, _, _, _, b, rfl, .ty S, ht, hk, q⟩
end
/-- n & (2 ^ k - 1) -/
def rAndM : R2 := fun x y H Q => ∃ (i : Int) (k : Nat), x = .int i ∧ y = .int (2 ^ k - 1) ∧ Q (.int (i % 2 ^ k)) H
theorem o_and {X : Cx} : OpR X (binaryOp .BitAnd) rAndM := op_andM
theorem x_and255 {H : Hp} {Q : VK} {i : Int} (q : Q (.int (i % 256)) H) : rAndM (.int i) (.int 255) H Q := ⟨i, 8, rfl, rfl, q⟩
/-! ### slices -/
theorem cut_to {a : List Int} {j : Int} (h0 : 0 ≤ j) (h1 : j ≤ a.length) : cutV (a.map V.int) none (some j) = (a.take j.toNat).map V.int := by
  obtain ⟨k, rfl⟩ := Int.eq_ofNat_of_zero_le h0
  unfold cutV
  rw [HT.sIx_none, HT.sIx_nat]
  simp only [List.drop_zero, Nat.sub_zero, List.length_map, List.map_take, Int.toNat_natCast]
  congr 1
  omega
theorem cut_from {a : List Int} {j : Int} (h0 : 0 ≤ j) (h1 : j ≤ a.length) : cutV (a.map V.int) (some j) none = (a.drop j.toNat).map V.int := by
  obtain ⟨k, rfl⟩ := Int.eq_ofNat_of_zero_le h0
  unfold cutV
  rw [HT.sIx_none, HT.sIx_nat]
  simp only [List.length_map, List.map_drop, Int.toNat_natCast]
  rw [show min k a.length = k by omega, List.take_of_length_le (by simp)]
theorem cut_mid {a : List Int} {i j : Int} (h0 : 0 ≤ i) (h1 : i ≤ j) : cutV (a.map V.int) (some i) (some j) = ((a.drop i.toNat).take (j - i).toNat).map V.int := by
  obtain ⟨m, rfl⟩ := Int.eq_ofNat_of_zero_le h0
  obtain ⟨n, rfl⟩ := Int.eq_ofNat_of_zero_le (Int.le_trans h0 h1)
  unfold cutV
  rw [HT.sIx_nat, HT.sIx_nat]
  simp only [List.length_map, List.map_take, List.map_drop, Int.toNat_natCast]
  have e : ((n : Int) - (m : Int)).toNat = n - m := by omega
  rw [e]
  by_cases q : m ≤ a.length
  · rw [show min m a.length = m by omega]
    by_cases q2 : n ≤ a.length
    · rw [show min n a.length = n by omega]
    · rw [show min n a.length = a.length by omega, List.take_of_length_le (by simp), List.take_of_length_le (by simp; omega)]
  · rw [List.drop_eq_nil_of_le (by simp; omega), List.drop_eq_nil_of_le (by simp; omega)]; simp

/-! ### exceptions of own classes, made without arguments -/
section
variable {X : Cx} {C : Addr} {bmB : List Value} {B newId initId : String} {x : Str} {p pos : Pos}
theorem pmk_own0 (F : ExcBaseFacts B newId initId bmB) (q : PySem.W.excIn X.K C bmB newId = true) (gC : X.mg x = some (.ref C)) (kC : PySem.W.keepIn X.K (.ref C) = true) (r : Raises X (.ref C)) (hg : Gl X x)
    (hdb : (x == ("__debug__" : Str)) = false := by decide) : PMk X (.Call (.Name x p) [] [] pos) (fun _ H Q => Q (.ref C) none H) := fun pins s σ H Q I h => by
  refine wpAny_Call_Name_kw (ld_glob I hg gC (PySem.W.callWith_K0 I.kIn kC ?_) hdb)
  obtain ⟨_, _, _, _, _, _, _, _, _, _, _, _, _, _, _, _, _, hC, hN, hi, T⟩ := exc_obj I.kIn q
  exact wpAny_call_exc_subT F T hC hN hi (fun _ _ hm => mk_of I hm r h (I.hok.gone hm.new)) (Nat.zero_le _)
end
/-- what the top tells of an own exception class -/
structure ExT (K : PySem.W.Frag) (mg : Str → Option Value) (x : Str) (C : Addr) : Prop where
  g : mg x = some (.ref C)
  x : PySem.W.excIn K C [.type "ValueError", .type "Exception", .type "BaseException", .type "object"] "ValueError.__new__" = true
  k : PySem.W.keepIn K (.ref C) = true
  b : PySem.W.subIn K (.ref C) (.type "BaseException") = some true
  t : PySem.W.typeIn K (.ref C) = some (.type "type")
  i : PySem.W.isClsIn K C = true
  s : PySem.W.subIn K (.ref C) (.ref C) = some true
section
variable {X : Cx} {C : Addr} {x : Str} {p pos : Pos}
theorem pmk_X (T : ExT X.K X.mg x C) (hg : Gl X x := by rfl) (hdb : (x == ("__debug__" : Str)) = false := by decide) : PMk X (.Call (.Name x p) [] [] pos) (fun _ H Q => Q (.ref C) none H) :=
  pmk_own0 PySem.F.excBase_ValueError T.x T.g T.k (raises_own T.b T.t) hg hdb
/-- what an own raising def lets out goes to its own wish -/
theorem passE {E : XK} {E1 : Value → Shared → Prop} (hs : X.stack = X.env :: X.outer) (hf : X.env.frame = some X.env.locals) (hex : X.ex = [])
    (hx : X.xe = fun e s' => wpAny (model X.prog X.w) X.A (leaving X.env e) (fun _ s'' => L2.CX X.prog X.w X.outer X.H_0 X.s_0 E e s'') E1 s') : ∀ σ, PassesAt (L2.CX X.prog X.w) X σ ((fun _ => E) σ) :=
  fun σ pins H s e s' I c => passes_call (takes_of hs hf hex hx) (fun _ _ _ _ z => z) pins σ H s e s' I c
end

/-! ### fields, methods, dicts: their steps -/
section
variable {K : PySem.W.Frag} {σ : L2.St} {H : Hp} {Q : VK} {D : Ends} {ta tv td ty tx te : TE} {t u : TS} {x y z v : V} {f m : Str} {p a C dx : Addr} {fs fs' : List (Str × V)} {ts : TA} {sp : Sp} {E : L2.St → XK}
def rFldQ (K : PySem.W.Frag) (f : Str) (x : V) (H : Hp) (Q : VK) : Prop := ∃ a C dx fs v, x = .ref a ∧ H a = some (.ins C dx fs) ∧ Cls K C ∧ NoAttr K C f ∧ fs.lookup f = some v ∧ Q v H
theorem x_tfld (h : ta σ H fun x H1 => rFldQ K f x H1 Q) : tFld K ta f σ H Q := h
theorem x_fld (h : H p = some (.ins C dx fs)) (cl : Cls K C) (na : NoAttr K C f) (l : fs.lookup f = some v) (q : Q v H) : rFldQ K f (.ref p) H Q := ⟨p, C, dx, fs, v, rfl, h, cl, na, l, q⟩
def rSFld (K : PySem.W.Frag) (f : Str) (x y : V) (H : Hp) (R : Hp → Prop) : Prop := ∃ a C dx fs, x = .ref a ∧ H a = some (.ins C dx fs) ∧ Cls K C ∧ NoAttr K C f ∧ fs.length < 1000 ∧ R (upd H a (.ins C dx (putF f y fs)))
theorem x_tsf (h : tv σ H fun y H1 => ta σ H1 fun x H2 => rSFld K f x y H2 (D.nx σ)) : sFld K ta tv f D σ H := h
theorem x_sfl {R : Hp → Prop} (h : H p = some (.ins C dx fs)) (cl : Cls K C) (na : NoAttr K C f) (ln : fs.length < 1000) (e : putF f y fs = fs') (q : ∀ H1, H1 p = some (.ins C dx fs') → Kp (F1 p) H H1 → R H1) : rSFld K f (.ref p) y H R :=
  ⟨p, C, dx, fs, rfl, h, cl, na, ln, q _ (by rw [e]; exact upd_same) (Kp.put h id)⟩
def rAugQ (K : PySem.W.Frag) (f : Str) (x : V) (H : Hp) (R : Addr → Addr → V → Prop) : Prop := ∃ a C dx fs v, x = .ref a ∧ H a = some (.ins C dx fs) ∧ Cls K C ∧ NoAttr K C f ∧ fs.lookup f = some v ∧ R a C v
def rAugP (f : Str) (a C : Addr) (z : V) (H : Hp) (R : Hp → Prop) : Prop := ∃ dx' fs', H a = some (.ins C dx' fs') ∧ fs'.length < 1000 ∧ R (upd H a (.ins C dx' (putF f z fs')))
theorem x_aug {rd : V → V → Hp → VK → Prop} (h : ta σ H fun x H1 => rAugQ K f x H1 fun a C v => tv σ H1 fun y H2 => rd v y H2 fun z H3 => rAugP f a C z H3 (D.nx σ)) : sFldAug K ta tv rd f D σ H := by
  exact h
theorem x_augI {R : Addr → Addr → V → Prop} (h : H p = some (.ins C dx fs)) (cl : Cls K C) (na : NoAttr K C f) (l : fs.lookup f = some v) (q : R p C v) : rAugQ K f (.ref p) H R := ⟨p, C, dx, fs, v, rfl, h, cl, na, l, q⟩
theorem x_augP {R : Hp → Prop} (h : H p = some (.ins C dx fs)) (ln : fs.length < 1000) (e : putF f y fs = fs') (q : ∀ H1, H1 p = some (.ins C dx fs') → Kp (F1 p) H H1 → R H1) : rAugP f p C y H R :=
  ⟨dx, fs, h, ln, q _ (by rw [e]; exact upd_same) (Kp.put h id)⟩
theorem x_radd {i j : Int} (q : Q (.int (i + j)) H) : rAdd (.int i) (.int j) H Q := ⟨i, j, rfl, rfl, q⟩
theorem x_rsub {i j : Int} (q : Q (.int (i - j)) H) : rSub (.int i) (.int j) H Q := ⟨i, j, rfl, rfl, q⟩
def rMethQ (C : Addr) (m : Str) (x : V) (H : Hp) (R : Addr → Prop) : Prop := ∃ a dx fs, x = .ref a ∧ H a = some (.ins C dx fs) ∧ fs.lookup m = none ∧ R a
theorem x_tmt (h : ta σ H fun x H1 => rMethQ C m x H1 fun a => ts σ H1 fun vs H2 => sp (.ref a :: vs) H2 Q (E σ)) : tMethS C m sp E ta ts σ H Q := h
theorem x_mt {R : Addr → Prop} (h : H p = some (.ins C dx fs)) (l : fs.lookup m = none) (q : R p) : rMethQ C m (.ref p) H R := ⟨p, dx, fs, rfl, h, l, q⟩
theorem x_mk (h : ts σ H fun vs H1 => ∀ x dx, H1 x = none → H1 dx = none → dx ≠ x → sp (.ref x :: vs) (upd (upd H1 dx (.own x)) x (.ins C dx [])) (fun v H2 => v = .non ∧ Q (.ref x) H2) (E σ)) : tMakeS C sp E ts σ H Q := h
/-- d[k], k in d, d.get(k, z), d[k] = v, d.pop(k) -/
def rDGet (x y : V) (H : Hp) (Q : VK) : Prop := ∃ a v, x = .ref a ∧ DGet H a y (some v) ∧ Q v H
theorem x_tdg (h : td σ H fun x H1 => ty σ H1 fun y H2 => rDGet x y H2 Q) : tDGet td ty σ H Q := h
theorem x_dgI {kvs : List (Key × V)} {n : Int} (h : Rd H a (.dK kvs)) (e : valV kvs (Sum.inl n) = some v) (q : Q v H) : rDGet (.ref a) (.int n) H Q := ⟨a, v, rfl, .inl ⟨kvs, .inl n, h, rfl, e.symm⟩, q⟩
theorem x_dgS {kvs : List (Key × V)} {n : Str} (h : Rd H a (.dK kvs)) (e : valV kvs (Sum.inr n) = some v) (q : Q v H) : rDGet (.ref a) (.str n) H Q := ⟨a, v, rfl, .inl ⟨kvs, .inr n, h, rfl, e.symm⟩, q⟩
def rDIn (x y : V) (H : Hp) (Q : VK) : Prop := ∃ a o, x = .ref a ∧ DGet H a y o ∧ Q (.bl o.isSome) H
theorem x_tdi (h : ty σ H fun y H1 => td σ H1 fun x H2 => rDIn x y H2 Q) : tDIn ty td σ H Q := h
theorem x_diI {kvs : List (Key × V)} {n : Int} (h : Rd H a (.dK kvs)) (q : Q (.bl (valV kvs (Sum.inl n)).isSome) H) : rDIn (.ref a) (.int n) H Q := ⟨a, _, rfl, .inl ⟨kvs, .inl n, h, rfl, rfl⟩, q⟩
def rDNin (x y : V) (H : Hp) (Q : VK) : Prop := ∃ a o, x = .ref a ∧ DGet H a y o ∧ Q (.bl (!o.isSome)) H
theorem x_tdn (h : ty σ H fun y H1 => td σ H1 fun x H2 => rDNin x y H2 Q) : tDNotIn ty td σ H Q := h
theorem x_dnI {kvs : List (Key × V)} {n : Int} (h : Rd H a (.dK kvs)) (q : Q (.bl (!(valV kvs (Sum.inl n)).isSome)) H) : rDNin (.ref a) (.int n) H Q := ⟨a, _, rfl, .inl ⟨kvs, .inl n, h, rfl, rfl⟩, q⟩
def rDGet2 (x : V) (H : Hp) (R : Addr → Prop) : Prop := ∃ a, x = .ref a ∧ IsD H a ∧ R a
def rDGet2b (a : Addr) (y z : V) (H : Hp) (Q : VK) : Prop := ∃ o, DGet H a y o ∧ Q (o.getD z) H
theorem x_tg2 (h : td σ H fun x H1 => rDGet2 x H1 fun a => ty σ H1 fun y H2 => tx σ H2 fun z H3 => rDGet2b a y z H3 Q) : tDGet2 td ty tx σ H Q := h
theorem x_g2a {kvs : List (Key × V)} {R : Addr → Prop} (h : Rd H a (.dK kvs)) (q : R a) : rDGet2 (.ref a) H R := ⟨a, rfl, .inl ⟨kvs, h⟩, q⟩
theorem x_g2b {kvs : List (Key × V)} {n : Int} (h : Rd H a (.dK kvs)) (q : Q ((valV kvs (Sum.inl n)).getD z) H) : rDGet2b a (.int n) z H Q := ⟨_, .inl ⟨kvs, .inl n, h, rfl, rfl⟩, q⟩
def rDPut (x y v : V) (H : Hp) (R : Hp → Prop) : Prop := ∃ a H4, x = .ref a ∧ DPut H a y v H4 ∧ R H4
theorem x_tdp (h : tv σ H fun v H1 => td σ H1 fun x H2 => ty σ H2 fun y H3 => rDPut x y v H3 (D.nx σ)) : sDPut td ty tv D σ H := h
theorem x_dpI {kvs : List (Key × V)} {n : Int} {R : Hp → Prop} (h : H a = some (.dK kvs)) (z : kvs.length < 16777216) (q : ∀ H1, H1 a = some (.dK (putK kvs (Sum.inl n) v)) → Kp (F1 a) H H1 → R H1) : rDPut (.ref a) (.int n) v H R :=
  ⟨a, _, rfl, .inl ⟨kvs, .inl n, h, rfl, Nat.lt_of_lt_of_le z (by decide), rfl⟩, q _ upd_same (Kp.put h id)⟩
theorem x_dpS {kvs kvs' : List (Key × V)} {n : Str} {R : Hp → Prop} (h : H a = some (.dK kvs)) (e : putK kvs (Sum.inr n) v = kvs') (z : kvs.length < 16777216) (q : ∀ H1, H1 a = some (.dK kvs') → Kp (F1 a) H H1 → R H1) : rDPut (.ref a) (.str n) v H R :=
  ⟨a, _, rfl, .inl ⟨kvs, .inr n, h, rfl, Nat.lt_of_lt_of_le z (by decide), rfl⟩, q _ (by rw [e]; exact upd_same) (Kp.put h id)⟩
theorem x_dnew (h : ∀ p H1, H p = none → Kp F0 H H1 → H1 p = some (.dK []) → Q (.ref p) H1) : tDNewK σ H Q := fun p hp => h p _ hp (Kp.new hp) upd_same
theorem x_lenD {kvs : List (Key × V)} (h : H a = some (.dK kvs)) (q : Q (.int kvs.length) H) : (fun (xs : List V) (H : Hp) (Q : VK) => ∃ a kvs, xs = [V.ref a] ∧ H a = some (.dK kvs) ∧ Q (.int kvs.length) H) [.ref a] H Q := ⟨a, kvs, rfl, h, q⟩
/-- x is None -/
def rIsNQ : R2 := fun x y H Q => y = .non ∧ Q (.bl (decide (x = .non))) H
theorem o_isN {X : Cx} : OpR X (compareOp .Is) rIsNQ := op_isN
theorem x_isNi {i : Int} (q : Q (.bl false) H) : rIsNQ (.int i) .non H Q := ⟨rfl, q⟩
theorem x_isNr (q : Q (.bl false) H) : rIsNQ (.ref a) .non H Q := ⟨rfl, q⟩
theorem x_isNn (q : Q (.bl true) H) : rIsNQ .non .non H Q := ⟨rfl, q⟩
def rNotNQ : R2 := fun x y H Q => y = .non ∧ Q (.bl (!decide (x = .non))) H
theorem o_notN {X : Cx} : OpR X (compareOp .IsNot) rNotNQ := op_notN
theorem x_notNi {i : Int} (q : Q (.bl true) H) : rNotNQ (.int i) .non H Q := ⟨rfl, q⟩
theorem x_notNr (q : Q (.bl true) H) : rNotNQ (.ref a) .non H Q := ⟨rfl, q⟩
theorem x_notNn (q : Q (.bl false) H) : rNotNQ .non .non H Q := ⟨rfl, q⟩
end
/-- a repeated list -/
theorem x_rep {H : Hp} {Q : VK} {l : Addr} {k : Int} {v : V} (h : H l = some (.lst [v])) (h0 : 0 ≤ k) (h1 : k ≤ 1000000) (q : ∀ p H1, H p = none → Kp F0 H H1 → H1 p = some (.lst (List.replicate k.toNat v)) → Q (.ref p) H1) : rRep (.ref l) (.int k) H Q :=
  ⟨l, k, [v], rfl, rfl, h, by omega, by omega, by rw [sizeLine_eq]; simp only [List.length_singleton]; omega, fun p hp => q p _ hp (Kp.new hp) (by rw [upd_same]; congr 2; generalize k.toNat = n; induction n with | zero => rfl | succ n ih => rw [List.replicate_succ, List.flatten_cons, ih, List.replicate_succ]; rfl)⟩
/-- reversed(xs) -/
theorem Wk.rev {K : PySem.W.Frag} {a : Addr} {xs : List V} : Wk (Itv K a xs.length) (fun H => SqL K H a xs) xs.reverse where
  go := fun i H h g => by
    rw [List.length_reverse] at h
    exact ⟨h, xs, xs[xs.length - 1 - i], g, by rw [List.getElem?_eq_getElem (by omega)]⟩
  yld := fun i H x H' h g y => by
    rw [List.length_reverse] at h
    refine ⟨y.1.symm, ?_⟩
    rw [List.getElem?_reverse h]
    exact y.2 xs g
  stop := fun H _ => by show xs.length ≤ _; rw [List.length_reverse]; exact Nat.le_refl _
section
variable {K : PySem.W.Frag} {σ : L2.St} {H : Hp} {ts : TA} {R : It → Hp → Prop} {a : Addr}
def rRevQ (K : PySem.W.Frag) (vs : List V) (H : Hp) (R : It → Hp → Prop) : Prop := ∃ (a : Addr) (xs : List V), vs = [.ref a] ∧ SqL K H a xs ∧ R (Itv K a xs.length) H
theorem x_irev (h : ts σ H fun vs H1 => rRevQ K vs H1 R) : iRev K ts σ H R := h
theorem x_rev {xs : List V} (h : SqL K H a xs) (q : R (Itv K a xs.length) H) : rRevQ K [.ref a] H R := ⟨a, xs, rfl, h, q⟩
end
theorem pi_revK {X : Cx} {K : PySem.W.Frag} {tg e : Expr} {ta : TA} (hK : X.K = K) (h : PI X tg e (iRev X.K ta)) : PI X tg e (iRev K ta) := by subst hK; exact h
/-- a footprint and what a step makes of it -/
structure Stp (G G' : Addr → Prop) (H H' : Hp) : Prop where
  kp : Kp G H H'
  gr : ∀ b, G' b → G b ∨ H b = none
theorem Stp.refl (G : Addr → Prop) (H : Hp) : Stp G G H H := ⟨Kp.refl H, fun b h => .inl h⟩
theorem Stp.trans {G G1 G2 : Addr → Prop} {H H1 H2 : Hp} (s : Stp G G1 H H1) (t : Stp G1 G2 H1 H2) : Stp G G2 H H2 := by
  refine ⟨s.kp.trans t.kp s.gr, fun b g => ?_⟩
  rcases t.gr b g with h | h
  · exact s.gr b h
  · by_cases q : G b
    · exact .inl q
    · cases e : H b with
      | none => exact .inr rfl
      | some o => rw [s.kp.get e q] at h; cases h
theorem Stp.pure {G : Addr → Prop} {H H' : Hp} (k : Kp F0 H H') : Stp G G H H' := ⟨k.mono fun _ z => z.elim, fun b h => .inl h⟩
theorem Stp.kp0 {G G' : Addr → Prop} {H H' : Hp} {b : Addr} {o : HO} (s : Stp G G' H H') (h : H b = some o) (n : ¬ G b) : ¬ G' b := fun z => by
  rcases s.gr b z with q | q
  · exact n q
  · rw [h] at q; cases q

/-- isinstance(e, c) in the suite that caught e, the class as the reading tells it -/
theorem c_isE {X : Cx} {a D : Addr} {cls : Value} {d : Option Addr} {oe : Obj} {pn : List (Addr × Obj)} (C : ExcC X.K D) (hz : Zc cls d oe) (hf : ∃ vs, oe.data = .fields vs) :
    CallR (X.suite a ((a, oe) :: pn)) (.builtin "isinstance") (fun xs H Q => cls = .ref D ∧ d = none ∧ rIsE X.K D a xs H Q) := fun pins s σ H xs us Q I r h => by
  obtain ⟨rfl, rfl, h⟩ := h
  exact call_isE C hz hf pins s σ H xs us Q I r h
theorem at_of_lt {a : List Int} {i : Nat} (h : i < a.length) : (a.map V.int)[i]? = some (.int (a.getD i 0)) := by
  rw [List.getElem?_map, List.getD_eq_getElem?_getD, List.getElem?_eq_getElem h]; rfl
end NV
namespace NV
open PySem L2
/-! the text by places -/
def top (i : Nat) : Stmt := PySem.Challenge.pw_nearvault_k03_devices.main.body.getD i (.Pass ⟨0, 0, 0, 0⟩)
abbrev s_Device___init__ : Stmt := inClass (top 6) 0
abbrev s_Device_step : Stmt := inClass (top 6) 1
abbrev s_Device_write_page : Stmt := inClass (top 6) 2
abbrev s_Device_sync_pages : Stmt := inClass (top 6) 3
abbrev s_Device_append : Stmt := inClass (top 6) 4
abbrev s_Device_clear : Stmt := inClass (top 6) 5
abbrev s_Device_sync_log : Stmt := inClass (top 6) 6
abbrev s_Device_durable_page : Stmt := inClass (top 6) 7
abbrev s_Device_page : Stmt := inClass (top 6) 8
abbrev s_Device_log : Stmt := inClass (top 6) 9
abbrev s_Device_limit : Stmt := inClass (top 6) 10
abbrev s_Device_crash : Stmt := inClass (top 6) 11
abbrev s_Device_steps : Stmt := inClass (top 6) 12
abbrev s_Device_pending : Stmt := inClass (top 6) 13
abbrev s__law_draw : Stmt := top 8
abbrev s__law_new : Stmt := top 9
abbrev s__law_may : Stmt := top 10
abbrev s__law_log : Stmt := top 11
abbrev s__law_page : Stmt := top 12
abbrev s__law_crash : Stmt := top 13
abbrev s__law_expected : Stmt := top 14
abbrev s__law_done : Stmt := top 15
abbrev s__law_same : Stmt := top 16
abbrev s_law : Stmt := top 17
theorem sc_Device___init__ : FnScope ["self"] ["self"] (defScope s_Device___init__) := ⟨rfl, rfl, rfl, by decide +kernel, rfl, by decide +kernel, by decide +kernel⟩
theorem sc_Device_step : FnScope ["self"] ["self"] (defScope s_Device_step) := ⟨rfl, rfl, rfl, by decide +kernel, rfl, by decide +kernel, by decide +kernel⟩
theorem sc_Device_write_page : FnScope ["self", "number", "data"] ["self", "number", "data"] (defScope s_Device_write_page) := ⟨rfl, rfl, rfl, by decide +kernel, rfl, by decide +kernel, by decide +kernel⟩
theorem sc_Device_sync_pages : FnScope ["self", "number", "data"] ["self"] (defScope s_Device_sync_pages) := ⟨rfl, rfl, rfl, by decide +kernel, rfl, by decide +kernel, by decide +kernel⟩
theorem sc_Device_append : FnScope ["self", "data", "byte"] ["self", "data"] (defScope s_Device_append) := ⟨rfl, rfl, rfl, by decide +kernel, rfl, by decide +kernel, by decide +kernel⟩
theorem sc_Device_clear : FnScope ["self"] ["self"] (defScope s_Device_clear) := ⟨rfl, rfl, rfl, by decide +kernel, rfl, by decide +kernel, by decide +kernel⟩
theorem sc_Device_sync_log : FnScope ["self"] ["self"] (defScope s_Device_sync_log) := ⟨rfl, rfl, rfl, by decide +kernel, rfl, by decide +kernel, by decide +kernel⟩
theorem sc_Device_durable_page : FnScope ["self", "number"] ["self", "number"] (defScope s_Device_durable_page) := ⟨rfl, rfl, rfl, by decide +kernel, rfl, by decide +kernel, by decide +kernel⟩
theorem sc_Device_page : FnScope ["self", "number", "other", "data"] ["self", "number"] (defScope s_Device_page) := ⟨rfl, rfl, rfl, by decide +kernel, rfl, by decide +kernel, by decide +kernel⟩
theorem sc_Device_log : FnScope ["self", "data", "byte"] ["self"] (defScope s_Device_log) := ⟨rfl, rfl, rfl, by decide +kernel, rfl, by decide +kernel, by decide +kernel⟩
theorem sc_Device_limit : FnScope ["self", "steps"] ["self", "steps"] (defScope s_Device_limit) := ⟨rfl, rfl, rfl, by decide +kernel, rfl, by decide +kernel, by decide +kernel⟩
theorem sc_Device_crash : FnScope ["self", "fates", "kept", "place", "number", "data"] ["self", "fates", "kept"] (defScope s_Device_crash) := ⟨rfl, rfl, rfl, by decide +kernel, rfl, by decide +kernel, by decide +kernel⟩
theorem sc_Device_steps : FnScope ["self"] ["self"] (defScope s_Device_steps) := ⟨rfl, rfl, rfl, by decide +kernel, rfl, by decide +kernel, by decide +kernel⟩
theorem sc_Device_pending : FnScope ["self"] ["self"] (defScope s_Device_pending) := ⟨rfl, rfl, rfl, by decide +kernel, rfl, by decide +kernel, by decide +kernel⟩
theorem sc__law_draw : FnScope ["_law_state", "_law_script", "_law_size", "_law_cell", "_law_mixed", "_law_digit"] ["_law_state", "_law_script", "_law_size"] (defScope s__law_draw) := ⟨rfl, rfl, rfl, by decide +kernel, rfl, by decide +kernel, by decide +kernel⟩
theorem sc__law_new : FnScope [] [] (defScope s__law_new) := ⟨rfl, rfl, rfl, by decide +kernel, rfl, by decide +kernel, by decide +kernel⟩
theorem sc__law_may : FnScope ["_law_model"] ["_law_model"] (defScope s__law_may) := ⟨rfl, rfl, rfl, by decide +kernel, rfl, by decide +kernel, by decide +kernel⟩
theorem sc__law_log : FnScope ["_law_model", "_law_data", "_law_byte"] ["_law_model"] (defScope s__law_log) := ⟨rfl, rfl, rfl, by decide +kernel, rfl, by decide +kernel, by decide +kernel⟩
theorem sc__law_page : FnScope ["_law_model", "_law_number", "_law_data", "_law_other", "_law_content"] ["_law_model", "_law_number"] (defScope s__law_page) := ⟨rfl, rfl, rfl, by decide +kernel, rfl, by decide +kernel, by decide +kernel⟩
theorem sc__law_crash : FnScope ["_law_model", "_law_fates", "_law_kept", "_law_k", "_law_number", "_law_data", "_law_old"] ["_law_model", "_law_fates", "_law_kept"] (defScope s__law_crash) := ⟨rfl, rfl, rfl, by decide +kernel, rfl, by decide +kernel, by decide +kernel⟩
theorem sc__law_expected : FnScope ["_law_model", "_law_kind", "_law_number", "_law_data", "_law_byte", "_law_other", "_law_content"] ["_law_model", "_law_kind", "_law_number", "_law_data"] (defScope s__law_expected) := ⟨rfl, rfl, rfl, by decide +kernel, rfl, by decide +kernel, by decide +kernel⟩
theorem sc__law_done : FnScope ["_law_device", "_law_kind", "_law_number", "_law_data", "error"] ["_law_device", "_law_kind", "_law_number", "_law_data"] (defScope s__law_done) := ⟨rfl, rfl, rfl, by decide +kernel, rfl, by decide +kernel, by decide +kernel⟩
theorem sc__law_same : FnScope ["_law_device", "_law_model", "_law_number", "_law_page_here"] ["_law_device", "_law_model"] (defScope s__law_same) := ⟨rfl, rfl, rfl, by decide +kernel, rfl, by decide +kernel, by decide +kernel⟩
theorem sc_law : FnScope ["_law_script", "_law_state", "_law_device", "_law_model", "_law_turn", "_law_kind", "_law_number", "_law_data", "_law_due", "_law_steps", "_law_fates", "_law_kept", "_law_k"] ["_law_script"] (defScope s_law) := ⟨rfl, rfl, rfl, by decide +kernel, rfl, by decide +kernel, by decide +kernel⟩
/-- the addresses of the classes -/
structure Cl where
  VaultError : Addr
  PowerCut : Addr
  Device : Addr
def F_Device1 (v0 : V) : List (Str × V) := [("pages", v0)]
def F_Device2 (v0 v1 : V) : List (Str × V) := [("pages", v0), ("page_writes", v1)]
def F_Device3 (v0 v1 v2 : V) : List (Str × V) := [("pages", v0), ("page_writes", v1), ("durable_log", v2)]
def F_Device4 (v0 v1 v2 v3 : V) : List (Str × V) := [("pages", v0), ("page_writes", v1), ("durable_log", v2), ("log_steps", v3)]
def F_Device5 (v0 v1 v2 v3 v4 : V) : List (Str × V) := [("pages", v0), ("page_writes", v1), ("durable_log", v2), ("log_steps", v3), ("done", v4)]
def F_Device (v0 v1 v2 v3 v4 v5 : V) : List (Str × V) := [("pages", v0), ("page_writes", v1), ("durable_log", v2), ("log_steps", v3), ("done", v4), ("most", v5)]
theorem lk_Device_pages {v0 v1 v2 v3 v4 v5 : V} : (F_Device v0 v1 v2 v3 v4 v5).lookup ("pages" : Str) = some v0 := by kernel_rfl
theorem pt_Device_pages {v0 v1 v2 v3 v4 v5 : V} {u : V} : putF "pages" u (F_Device v0 v1 v2 v3 v4 v5) = (F_Device u v1 v2 v3 v4 v5) := by kernel_rfl
theorem pi_Device_pages {v0 : V} : putF "pages" v0 ([] : List (Str × V)) = (F_Device1 v0) := by kernel_rfl
theorem ln_Device_1 {v0 : V} : (F_Device1 v0).length < 1000 := by show 1 < 1000; decide
theorem lk_Device_page_writes {v0 v1 v2 v3 v4 v5 : V} : (F_Device v0 v1 v2 v3 v4 v5).lookup ("page_writes" : Str) = some v1 := by kernel_rfl
theorem pt_Device_page_writes {v0 v1 v2 v3 v4 v5 : V} {u : V} : putF "page_writes" u (F_Device v0 v1 v2 v3 v4 v5) = (F_Device v0 u v2 v3 v4 v5) := by kernel_rfl
theorem pi_Device_page_writes {v0 v1 : V} : putF "page_writes" v1 (F_Device1 v0) = (F_Device2 v0 v1) := by kernel_rfl
theorem li_Device_pages_1 {v0 : V} : (F_Device1 v0).lookup ("pages" : Str) = some v0 := by kernel_rfl
theorem ln_Device_2 {v0 v1 : V} : (F_Device2 v0 v1).length < 1000 := by show 2 < 1000; decide
theorem lk_Device_durable_log {v0 v1 v2 v3 v4 v5 : V} : (F_Device v0 v1 v2 v3 v4 v5).lookup ("durable_log" : Str) = some v2 := by kernel_rfl
theorem pt_Device_durable_log {v0 v1 v2 v3 v4 v5 : V} {u : V} : putF "durable_log" u (F_Device v0 v1 v2 v3 v4 v5) = (F_Device v0 v1 u v3 v4 v5) := by kernel_rfl
theorem pi_Device_durable_log {v0 v1 v2 : V} : putF "durable_log" v2 (F_Device2 v0 v1) = (F_Device3 v0 v1 v2) := by kernel_rfl
theorem li_Device_pages_2 {v0 v1 : V} : (F_Device2 v0 v1).lookup ("pages" : Str) = some v0 := by kernel_rfl
theorem li_Device_page_writes_2 {v0 v1 : V} : (F_Device2 v0 v1).lookup ("page_writes" : Str) = some v1 := by kernel_rfl
theorem ln_Device_3 {v0 v1 v2 : V} : (F_Device3 v0 v1 v2).length < 1000 := by show 3 < 1000; decide
theorem lk_Device_log_steps {v0 v1 v2 v3 v4 v5 : V} : (F_Device v0 v1 v2 v3 v4 v5).lookup ("log_steps" : Str) = some v3 := by kernel_rfl
theorem pt_Device_log_steps {v0 v1 v2 v3 v4 v5 : V} {u : V} : putF "log_steps" u (F_Device v0 v1 v2 v3 v4 v5) = (F_Device v0 v1 v2 u v4 v5) := by kernel_rfl
theorem pi_Device_log_steps {v0 v1 v2 v3 : V} : putF "log_steps" v3 (F_Device3 v0 v1 v2) = (F_Device4 v0 v1 v2 v3) := by kernel_rfl
theorem li_Device_pages_3 {v0 v1 v2 : V} : (F_Device3 v0 v1 v2).lookup ("pages" : Str) = some v0 := by kernel_rfl
theorem li_Device_page_writes_3 {v0 v1 v2 : V} : (F_Device3 v0 v1 v2).lookup ("page_writes" : Str) = some v1 := by kernel_rfl
theorem li_Device_durable_log_3 {v0 v1 v2 : V} : (F_Device3 v0 v1 v2).lookup ("durable_log" : Str) = some v2 := by kernel_rfl
theorem ln_Device_4 {v0 v1 v2 v3 : V} : (F_Device4 v0 v1 v2 v3).length < 1000 := by show 4 < 1000; decide
theorem lk_Device_done {v0 v1 v2 v3 v4 v5 : V} : (F_Device v0 v1 v2 v3 v4 v5).lookup ("done" : Str) = some v4 := by kernel_rfl
theorem pt_Device_done {v0 v1 v2 v3 v4 v5 : V} {u : V} : putF "done" u (F_Device v0 v1 v2 v3 v4 v5) = (F_Device v0 v1 v2 v3 u v5) := by kernel_rfl
theorem pi_Device_done {v0 v1 v2 v3 v4 : V} : putF "done" v4 (F_Device4 v0 v1 v2 v3) = (F_Device5 v0 v1 v2 v3 v4) := by kernel_rfl
theorem li_Device_pages_4 {v0 v1 v2 v3 : V} : (F_Device4 v0 v1 v2 v3).lookup ("pages" : Str) = some v0 := by kernel_rfl
theorem li_Device_page_writes_4 {v0 v1 v2 v3 : V} : (F_Device4 v0 v1 v2 v3).lookup ("page_writes" : Str) = some v1 := by kernel_rfl
theorem li_Device_durable_log_4 {v0 v1 v2 v3 : V} : (F_Device4 v0 v1 v2 v3).lookup ("durable_log" : Str) = some v2 := by kernel_rfl
theorem li_Device_log_steps_4 {v0 v1 v2 v3 : V} : (F_Device4 v0 v1 v2 v3).lookup ("log_steps" : Str) = some v3 := by kernel_rfl
theorem ln_Device_5 {v0 v1 v2 v3 v4 : V} : (F_Device5 v0 v1 v2 v3 v4).length < 1000 := by show 5 < 1000; decide
theorem lk_Device_most {v0 v1 v2 v3 v4 v5 : V} : (F_Device v0 v1 v2 v3 v4 v5).lookup ("most" : Str) = some v5 := by kernel_rfl
theorem pt_Device_most {v0 v1 v2 v3 v4 v5 : V} {u : V} : putF "most" u (F_Device v0 v1 v2 v3 v4 v5) = (F_Device v0 v1 v2 v3 v4 u) := by kernel_rfl
theorem pi_Device_most {v0 v1 v2 v3 v4 v5 : V} : putF "most" v5 (F_Device5 v0 v1 v2 v3 v4) = (F_Device v0 v1 v2 v3 v4 v5) := by kernel_rfl
theorem li_Device_pages_5 {v0 v1 v2 v3 v4 : V} : (F_Device5 v0 v1 v2 v3 v4).lookup ("pages" : Str) = some v0 := by kernel_rfl
theorem li_Device_page_writes_5 {v0 v1 v2 v3 v4 : V} : (F_Device5 v0 v1 v2 v3 v4).lookup ("page_writes" : Str) = some v1 := by kernel_rfl
theorem li_Device_durable_log_5 {v0 v1 v2 v3 v4 : V} : (F_Device5 v0 v1 v2 v3 v4).lookup ("durable_log" : Str) = some v2 := by kernel_rfl
theorem li_Device_log_steps_5 {v0 v1 v2 v3 v4 : V} : (F_Device5 v0 v1 v2 v3 v4).lookup ("log_steps" : Str) = some v3 := by kernel_rfl
theorem li_Device_done_5 {v0 v1 v2 v3 v4 : V} : (F_Device5 v0 v1 v2 v3 v4).lookup ("done" : Str) = some v4 := by kernel_rfl
theorem ln_Device_6 {v0 v1 v2 v3 v4 v5 : V} : (F_Device v0 v1 v2 v3 v4 v5).length < 1000 := by show 6 < 1000; decide
theorem no_Device_step {v0 v1 v2 v3 v4 v5 : V} : (F_Device v0 v1 v2 v3 v4 v5).lookup ("step" : Str) = none := by kernel_rfl
theorem ni_Device_step_1 {v0 : V} : (F_Device1 v0).lookup ("step" : Str) = none := by kernel_rfl
theorem ni_Device_step_2 {v0 v1 : V} : (F_Device2 v0 v1).lookup ("step" : Str) = none := by kernel_rfl
theorem ni_Device_step_3 {v0 v1 v2 : V} : (F_Device3 v0 v1 v2).lookup ("step" : Str) = none := by kernel_rfl
theorem ni_Device_step_4 {v0 v1 v2 v3 : V} : (F_Device4 v0 v1 v2 v3).lookup ("step" : Str) = none := by kernel_rfl
theorem ni_Device_step_5 {v0 v1 v2 v3 v4 : V} : (F_Device5 v0 v1 v2 v3 v4).lookup ("step" : Str) = none := by kernel_rfl
theorem no_Device_write_page {v0 v1 v2 v3 v4 v5 : V} : (F_Device v0 v1 v2 v3 v4 v5).lookup ("write_page" : Str) = none := by kernel_rfl
theorem ni_Device_write_page_1 {v0 : V} : (F_Device1 v0).lookup ("write_page" : Str) = none := by kernel_rfl
theorem ni_Device_write_page_2 {v0 v1 : V} : (F_Device2 v0 v1).lookup ("write_page" : Str) = none := by kernel_rfl
theorem ni_Device_write_page_3 {v0 v1 v2 : V} : (F_Device3 v0 v1 v2).lookup ("write_page" : Str) = none := by kernel_rfl
theorem ni_Device_write_page_4 {v0 v1 v2 v3 : V} : (F_Device4 v0 v1 v2 v3).lookup ("write_page" : Str) = none := by kernel_rfl
theorem ni_Device_write_page_5 {v0 v1 v2 v3 v4 : V} : (F_Device5 v0 v1 v2 v3 v4).lookup ("write_page" : Str) = none := by kernel_rfl
theorem no_Device_sync_pages {v0 v1 v2 v3 v4 v5 : V} : (F_Device v0 v1 v2 v3 v4 v5).lookup ("sync_pages" : Str) = none := by kernel_rfl
theorem ni_Device_sync_pages_1 {v0 : V} : (F_Device1 v0).lookup ("sync_pages" : Str) = none := by kernel_rfl
theorem ni_Device_sync_pages_2 {v0 v1 : V} : (F_Device2 v0 v1).lookup ("sync_pages" : Str) = none := by kernel_rfl
theorem ni_Device_sync_pages_3 {v0 v1 v2 : V} : (F_Device3 v0 v1 v2).lookup ("sync_pages" : Str) = none := by kernel_rfl
theorem ni_Device_sync_pages_4 {v0 v1 v2 v3 : V} : (F_Device4 v0 v1 v2 v3).lookup ("sync_pages" : Str) = none := by kernel_rfl
theorem ni_Device_sync_pages_5 {v0 v1 v2 v3 v4 : V} : (F_Device5 v0 v1 v2 v3 v4).lookup ("sync_pages" : Str) = none := by kernel_rfl
theorem no_Device_append {v0 v1 v2 v3 v4 v5 : V} : (F_Device v0 v1 v2 v3 v4 v5).lookup ("append" : Str) = none := by kernel_rfl
theorem ni_Device_append_1 {v0 : V} : (F_Device1 v0).lookup ("append" : Str) = none := by kernel_rfl
theorem ni_Device_append_2 {v0 v1 : V} : (F_Device2 v0 v1).lookup ("append" : Str) = none := by kernel_rfl
theorem ni_Device_append_3 {v0 v1 v2 : V} : (F_Device3 v0 v1 v2).lookup ("append" : Str) = none := by kernel_rfl
theorem ni_Device_append_4 {v0 v1 v2 v3 : V} : (F_Device4 v0 v1 v2 v3).lookup ("append" : Str) = none := by kernel_rfl
theorem ni_Device_append_5 {v0 v1 v2 v3 v4 : V} : (F_Device5 v0 v1 v2 v3 v4).lookup ("append" : Str) = none := by kernel_rfl
theorem no_Device_clear {v0 v1 v2 v3 v4 v5 : V} : (F_Device v0 v1 v2 v3 v4 v5).lookup ("clear" : Str) = none := by kernel_rfl
theorem ni_Device_clear_1 {v0 : V} : (F_Device1 v0).lookup ("clear" : Str) = none := by kernel_rfl
theorem ni_Device_clear_2 {v0 v1 : V} : (F_Device2 v0 v1).lookup ("clear" : Str) = none := by kernel_rfl
theorem ni_Device_clear_3 {v0 v1 v2 : V} : (F_Device3 v0 v1 v2).lookup ("clear" : Str) = none := by kernel_rfl
theorem ni_Device_clear_4 {v0 v1 v2 v3 : V} : (F_Device4 v0 v1 v2 v3).lookup ("clear" : Str) = none := by kernel_rfl
theorem ni_Device_clear_5 {v0 v1 v2 v3 v4 : V} : (F_Device5 v0 v1 v2 v3 v4).lookup ("clear" : Str) = none := by kernel_rfl
theorem no_Device_sync_log {v0 v1 v2 v3 v4 v5 : V} : (F_Device v0 v1 v2 v3 v4 v5).lookup ("sync_log" : Str) = none := by kernel_rfl
theorem ni_Device_sync_log_1 {v0 : V} : (F_Device1 v0).lookup ("sync_log" : Str) = none := by kernel_rfl
theorem ni_Device_sync_log_2 {v0 v1 : V} : (F_Device2 v0 v1).lookup ("sync_log" : Str) = none := by kernel_rfl
theorem ni_Device_sync_log_3 {v0 v1 v2 : V} : (F_Device3 v0 v1 v2).lookup ("sync_log" : Str) = none := by kernel_rfl
theorem ni_Device_sync_log_4 {v0 v1 v2 v3 : V} : (F_Device4 v0 v1 v2 v3).lookup ("sync_log" : Str) = none := by kernel_rfl
theorem ni_Device_sync_log_5 {v0 v1 v2 v3 v4 : V} : (F_Device5 v0 v1 v2 v3 v4).lookup ("sync_log" : Str) = none := by kernel_rfl
theorem no_Device_durable_page {v0 v1 v2 v3 v4 v5 : V} : (F_Device v0 v1 v2 v3 v4 v5).lookup ("durable_page" : Str) = none := by kernel_rfl
theorem ni_Device_durable_page_1 {v0 : V} : (F_Device1 v0).lookup ("durable_page" : Str) = none := by kernel_rfl
theorem ni_Device_durable_page_2 {v0 v1 : V} : (F_Device2 v0 v1).lookup ("durable_page" : Str) = none := by kernel_rfl
theorem ni_Device_durable_page_3 {v0 v1 v2 : V} : (F_Device3 v0 v1 v2).lookup ("durable_page" : Str) = none := by kernel_rfl
theorem ni_Device_durable_page_4 {v0 v1 v2 v3 : V} : (F_Device4 v0 v1 v2 v3).lookup ("durable_page" : Str) = none := by kernel_rfl
theorem ni_Device_durable_page_5 {v0 v1 v2 v3 v4 : V} : (F_Device5 v0 v1 v2 v3 v4).lookup ("durable_page" : Str) = none := by kernel_rfl
theorem no_Device_page {v0 v1 v2 v3 v4 v5 : V} : (F_Device v0 v1 v2 v3 v4 v5).lookup ("page" : Str) = none := by kernel_rfl
theorem ni_Device_page_1 {v0 : V} : (F_Device1 v0).lookup ("page" : Str) = none := by kernel_rfl
theorem ni_Device_page_2 {v0 v1 : V} : (F_Device2 v0 v1).lookup ("page" : Str) = none := by kernel_rfl
theorem ni_Device_page_3 {v0 v1 v2 : V} : (F_Device3 v0 v1 v2).lookup ("page" : Str) = none := by kernel_rfl
theorem ni_Device_page_4 {v0 v1 v2 v3 : V} : (F_Device4 v0 v1 v2 v3).lookup ("page" : Str) = none := by kernel_rfl
theorem ni_Device_page_5 {v0 v1 v2 v3 v4 : V} : (F_Device5 v0 v1 v2 v3 v4).lookup ("page" : Str) = none := by kernel_rfl
theorem no_Device_log {v0 v1 v2 v3 v4 v5 : V} : (F_Device v0 v1 v2 v3 v4 v5).lookup ("log" : Str) = none := by kernel_rfl
theorem ni_Device_log_1 {v0 : V} : (F_Device1 v0).lookup ("log" : Str) = none := by kernel_rfl
theorem ni_Device_log_2 {v0 v1 : V} : (F_Device2 v0 v1).lookup ("log" : Str) = none := by kernel_rfl
theorem ni_Device_log_3 {v0 v1 v2 : V} : (F_Device3 v0 v1 v2).lookup ("log" : Str) = none := by kernel_rfl
theorem ni_Device_log_4 {v0 v1 v2 v3 : V} : (F_Device4 v0 v1 v2 v3).lookup ("log" : Str) = none := by kernel_rfl
theorem ni_Device_log_5 {v0 v1 v2 v3 v4 : V} : (F_Device5 v0 v1 v2 v3 v4).lookup ("log" : Str) = none := by kernel_rfl
theorem no_Device_limit {v0 v1 v2 v3 v4 v5 : V} : (F_Device v0 v1 v2 v3 v4 v5).lookup ("limit" : Str) = none := by kernel_rfl
theorem ni_Device_limit_1 {v0 : V} : (F_Device1 v0).lookup ("limit" : Str) = none := by kernel_rfl
theorem ni_Device_limit_2 {v0 v1 : V} : (F_Device2 v0 v1).lookup ("limit" : Str) = none := by kernel_rfl
theorem ni_Device_limit_3 {v0 v1 v2 : V} : (F_Device3 v0 v1 v2).lookup ("limit" : Str) = none := by kernel_rfl
theorem ni_Device_limit_4 {v0 v1 v2 v3 : V} : (F_Device4 v0 v1 v2 v3).lookup ("limit" : Str) = none := by kernel_rfl
theorem ni_Device_limit_5 {v0 v1 v2 v3 v4 : V} : (F_Device5 v0 v1 v2 v3 v4).lookup ("limit" : Str) = none := by kernel_rfl
theorem no_Device_crash {v0 v1 v2 v3 v4 v5 : V} : (F_Device v0 v1 v2 v3 v4 v5).lookup ("crash" : Str) = none := by kernel_rfl
theorem ni_Device_crash_1 {v0 : V} : (F_Device1 v0).lookup ("crash" : Str) = none := by kernel_rfl
theorem ni_Device_crash_2 {v0 v1 : V} : (F_Device2 v0 v1).lookup ("crash" : Str) = none := by kernel_rfl
theorem ni_Device_crash_3 {v0 v1 v2 : V} : (F_Device3 v0 v1 v2).lookup ("crash" : Str) = none := by kernel_rfl
theorem ni_Device_crash_4 {v0 v1 v2 v3 : V} : (F_Device4 v0 v1 v2 v3).lookup ("crash" : Str) = none := by kernel_rfl
theorem ni_Device_crash_5 {v0 v1 v2 v3 v4 : V} : (F_Device5 v0 v1 v2 v3 v4).lookup ("crash" : Str) = none := by kernel_rfl
theorem no_Device_steps {v0 v1 v2 v3 v4 v5 : V} : (F_Device v0 v1 v2 v3 v4 v5).lookup ("steps" : Str) = none := by kernel_rfl
theorem ni_Device_steps_1 {v0 : V} : (F_Device1 v0).lookup ("steps" : Str) = none := by kernel_rfl
theorem ni_Device_steps_2 {v0 v1 : V} : (F_Device2 v0 v1).lookup ("steps" : Str) = none := by kernel_rfl
theorem ni_Device_steps_3 {v0 v1 v2 : V} : (F_Device3 v0 v1 v2).lookup ("steps" : Str) = none := by kernel_rfl
theorem ni_Device_steps_4 {v0 v1 v2 v3 : V} : (F_Device4 v0 v1 v2 v3).lookup ("steps" : Str) = none := by kernel_rfl
theorem ni_Device_steps_5 {v0 v1 v2 v3 v4 : V} : (F_Device5 v0 v1 v2 v3 v4).lookup ("steps" : Str) = none := by kernel_rfl
theorem no_Device_pending {v0 v1 v2 v3 v4 v5 : V} : (F_Device v0 v1 v2 v3 v4 v5).lookup ("pending" : Str) = none := by kernel_rfl
theorem ni_Device_pending_1 {v0 : V} : (F_Device1 v0).lookup ("pending" : Str) = none := by kernel_rfl
theorem ni_Device_pending_2 {v0 v1 : V} : (F_Device2 v0 v1).lookup ("pending" : Str) = none := by kernel_rfl
theorem ni_Device_pending_3 {v0 v1 v2 : V} : (F_Device3 v0 v1 v2).lookup ("pending" : Str) = none := by kernel_rfl
theorem ni_Device_pending_4 {v0 v1 v2 v3 : V} : (F_Device4 v0 v1 v2 v3).lookup ("pending" : Str) = none := by kernel_rfl
theorem ni_Device_pending_5 {v0 v1 v2 v3 v4 : V} : (F_Device5 v0 v1 v2 v3 v4).lookup ("pending" : Str) = none := by kernel_rfl
local macro_rules | `(tactic| walk_at "lk") => `(tactic| with_reducible first | exact lk_Device_pages | exact lk_Device_page_writes | exact li_Device_pages_1 | exact lk_Device_durable_log | exact li_Device_pages_2 | exact li_Device_page_writes_2 | exact lk_Device_log_steps | exact li_Device_pages_3 | exact li_Device_page_writes_3 | exact li_Device_durable_log_3 | exact lk_Device_done | exact li_Device_pages_4 | exact li_Device_page_writes_4 | exact li_Device_durable_log_4 | exact li_Device_log_steps_4 | exact lk_Device_most | exact li_Device_pages_5 | exact li_Device_page_writes_5 | exact li_Device_durable_log_5 | exact li_Device_log_steps_5 | exact li_Device_done_5)
local macro_rules | `(tactic| walk_at "pt") => `(tactic| with_reducible first | exact pt_Device_pages | exact pi_Device_pages | exact pt_Device_page_writes | exact pi_Device_page_writes | exact pt_Device_durable_log | exact pi_Device_durable_log | exact pt_Device_log_steps | exact pi_Device_log_steps | exact pt_Device_done | exact pi_Device_done | exact pt_Device_most | exact pi_Device_most)
local macro_rules | `(tactic| walk_at "no") => `(tactic| with_reducible first | exact no_Device_step | exact ni_Device_step_1 | exact ni_Device_step_2 | exact ni_Device_step_3 | exact ni_Device_step_4 | exact ni_Device_step_5 | exact no_Device_write_page | exact ni_Device_write_page_1 | exact ni_Device_write_page_2 | exact ni_Device_write_page_3 | exact ni_Device_write_page_4 | exact ni_Device_write_page_5 | exact no_Device_sync_pages | exact ni_Device_sync_pages_1 | exact ni_Device_sync_pages_2 | exact ni_Device_sync_pages_3 | exact ni_Device_sync_pages_4 | exact ni_Device_sync_pages_5 | exact no_Device_append | exact ni_Device_append_1 | exact ni_Device_append_2 | exact ni_Device_append_3 | exact ni_Device_append_4 | exact ni_Device_append_5 | exact no_Device_clear | exact ni_Device_clear_1 | exact ni_Device_clear_2 | exact ni_Device_clear_3 | exact ni_Device_clear_4 | exact ni_Device_clear_5 | exact no_Device_sync_log | exact ni_Device_sync_log_1 | exact ni_Device_sync_log_2 | exact ni_Device_sync_log_3 | exact ni_Device_sync_log_4 | exact ni_Device_sync_log_5 | exact no_Device_durable_page | exact ni_Device_durable_page_1 | exact ni_Device_durable_page_2 | exact ni_Device_durable_page_3 | exact ni_Device_durable_page_4 | exact ni_Device_durable_page_5 | exact no_Device_page | exact ni_Device_page_1 | exact ni_Device_page_2 | exact ni_Device_page_3 | exact ni_Device_page_4 | exact ni_Device_page_5 | exact no_Device_log | exact ni_Device_log_1 | exact ni_Device_log_2 | exact ni_Device_log_3 | exact ni_Device_log_4 | exact ni_Device_log_5 | exact no_Device_limit | exact ni_Device_limit_1 | exact ni_Device_limit_2 | exact ni_Device_limit_3 | exact ni_Device_limit_4 | exact ni_Device_limit_5 | exact no_Device_crash | exact ni_Device_crash_1 | exact ni_Device_crash_2 | exact ni_Device_crash_3 | exact ni_Device_crash_4 | exact ni_Device_crash_5 | exact no_Device_steps | exact ni_Device_steps_1 | exact ni_Device_steps_2 | exact ni_Device_steps_3 | exact ni_Device_steps_4 | exact ni_Device_steps_5 | exact no_Device_pending | exact ni_Device_pending_1 | exact ni_Device_pending_2 | exact ni_Device_pending_3 | exact ni_Device_pending_4 | exact ni_Device_pending_5 | exact rfl)
local macro_rules | `(tactic| walk_at "ln") => `(tactic| first | (with_reducible first | exact ln_Device_1 | exact ln_Device_2 | exact ln_Device_3 | exact ln_Device_4 | exact ln_Device_5 | exact ln_Device_6) | (show 0 < 1000; decide))
def RD_model (v0 v1 v2 v3 v4 v5 : V) : List (Key × V) := [(.inr "pages", v0), (.inr "writes", v1), (.inr "log", v2), (.inr "steps", v3), (.inr "done", v4), (.inr "most", v5)]
theorem rv_model_pages {v0 v1 v2 v3 v4 v5 : V} : valV (RD_model v0 v1 v2 v3 v4 v5) (.inr "pages") = some v0 := by kernel_rfl
theorem rp_model_pages {v0 v1 v2 v3 v4 v5 u : V} : putK (RD_model v0 v1 v2 v3 v4 v5) (.inr "pages") u = RD_model u v1 v2 v3 v4 v5 := by kernel_rfl
theorem rv_model_writes {v0 v1 v2 v3 v4 v5 : V} : valV (RD_model v0 v1 v2 v3 v4 v5) (.inr "writes") = some v1 := by kernel_rfl
theorem rp_model_writes {v0 v1 v2 v3 v4 v5 u : V} : putK (RD_model v0 v1 v2 v3 v4 v5) (.inr "writes") u = RD_model v0 u v2 v3 v4 v5 := by kernel_rfl
theorem rv_model_log {v0 v1 v2 v3 v4 v5 : V} : valV (RD_model v0 v1 v2 v3 v4 v5) (.inr "log") = some v2 := by kernel_rfl
theorem rp_model_log {v0 v1 v2 v3 v4 v5 u : V} : putK (RD_model v0 v1 v2 v3 v4 v5) (.inr "log") u = RD_model v0 v1 u v3 v4 v5 := by kernel_rfl
theorem rv_model_steps {v0 v1 v2 v3 v4 v5 : V} : valV (RD_model v0 v1 v2 v3 v4 v5) (.inr "steps") = some v3 := by kernel_rfl
theorem rp_model_steps {v0 v1 v2 v3 v4 v5 u : V} : putK (RD_model v0 v1 v2 v3 v4 v5) (.inr "steps") u = RD_model v0 v1 v2 u v4 v5 := by kernel_rfl
theorem rv_model_done {v0 v1 v2 v3 v4 v5 : V} : valV (RD_model v0 v1 v2 v3 v4 v5) (.inr "done") = some v4 := by kernel_rfl
theorem rp_model_done {v0 v1 v2 v3 v4 v5 u : V} : putK (RD_model v0 v1 v2 v3 v4 v5) (.inr "done") u = RD_model v0 v1 v2 v3 u v5 := by kernel_rfl
theorem rv_model_most {v0 v1 v2 v3 v4 v5 : V} : valV (RD_model v0 v1 v2 v3 v4 v5) (.inr "most") = some v5 := by kernel_rfl
theorem rp_model_most {v0 v1 v2 v3 v4 v5 u : V} : putK (RD_model v0 v1 v2 v3 v4 v5) (.inr "most") u = RD_model v0 v1 v2 v3 v4 u := by kernel_rfl
theorem rm_model {v0 v1 v2 v3 v4 v5 : V} : mergeK [] (RD_model v0 v1 v2 v3 v4 v5) = RD_model v0 v1 v2 v3 v4 v5 := by kernel_rfl
local macro_rules | `(tactic| walk_at "rv") => `(tactic| with_reducible first | exact rv_model_pages | exact rv_model_writes | exact rv_model_log | exact rv_model_steps | exact rv_model_done | exact rv_model_most)
local macro_rules | `(tactic| walk_at "rp") => `(tactic| with_reducible first | exact rp_model_pages | exact rp_model_writes | exact rp_model_log | exact rp_model_steps | exact rp_model_done | exact rp_model_most)
/-- what the top has left -/
structure Txt (K : PySem.W.Frag) (mg : Str → Option Value) (c : Cl) : Prop where
  f_Device___init__ : ∃ f fd, Fun K "__init__" "Device.__init__" s_Device___init__ f fd ∧ PySem.W.findIn K (.ref c.Device) "__init__" = some (some (.ref f)) ∧ PySem.W.isFn K (.ref f) = true
  f_Device_step : ∃ f fd, Fun K "step" "Device.step" s_Device_step f fd ∧ PySem.W.findIn K (.ref c.Device) "step" = some (some (.ref f)) ∧ PySem.W.isFn K (.ref f) = true
  f_Device_write_page : ∃ f fd, Fun K "write_page" "Device.write_page" s_Device_write_page f fd ∧ PySem.W.findIn K (.ref c.Device) "write_page" = some (some (.ref f)) ∧ PySem.W.isFn K (.ref f) = true
  f_Device_sync_pages : ∃ f fd, Fun K "sync_pages" "Device.sync_pages" s_Device_sync_pages f fd ∧ PySem.W.findIn K (.ref c.Device) "sync_pages" = some (some (.ref f)) ∧ PySem.W.isFn K (.ref f) = true
  f_Device_append : ∃ f fd, Fun K "append" "Device.append" s_Device_append f fd ∧ PySem.W.findIn K (.ref c.Device) "append" = some (some (.ref f)) ∧ PySem.W.isFn K (.ref f) = true
  f_Device_clear : ∃ f fd, Fun K "clear" "Device.clear" s_Device_clear f fd ∧ PySem.W.findIn K (.ref c.Device) "clear" = some (some (.ref f)) ∧ PySem.W.isFn K (.ref f) = true
  f_Device_sync_log : ∃ f fd, Fun K "sync_log" "Device.sync_log" s_Device_sync_log f fd ∧ PySem.W.findIn K (.ref c.Device) "sync_log" = some (some (.ref f)) ∧ PySem.W.isFn K (.ref f) = true
  f_Device_durable_page : ∃ f fd, Fun K "durable_page" "Device.durable_page" s_Device_durable_page f fd ∧ PySem.W.findIn K (.ref c.Device) "durable_page" = some (some (.ref f)) ∧ PySem.W.isFn K (.ref f) = true
  f_Device_page : ∃ f fd, Fun K "page" "Device.page" s_Device_page f fd ∧ PySem.W.findIn K (.ref c.Device) "page" = some (some (.ref f)) ∧ PySem.W.isFn K (.ref f) = true
  f_Device_log : ∃ f fd, Fun K "log" "Device.log" s_Device_log f fd ∧ PySem.W.findIn K (.ref c.Device) "log" = some (some (.ref f)) ∧ PySem.W.isFn K (.ref f) = true
  f_Device_limit : ∃ f fd, Fun K "limit" "Device.limit" s_Device_limit f fd ∧ PySem.W.findIn K (.ref c.Device) "limit" = some (some (.ref f)) ∧ PySem.W.isFn K (.ref f) = true
  f_Device_crash : ∃ f fd, Fun K "crash" "Device.crash" s_Device_crash f fd ∧ PySem.W.findIn K (.ref c.Device) "crash" = some (some (.ref f)) ∧ PySem.W.isFn K (.ref f) = true
  f_Device_steps : ∃ f fd, Fun K "steps" "Device.steps" s_Device_steps f fd ∧ PySem.W.findIn K (.ref c.Device) "steps" = some (some (.ref f)) ∧ PySem.W.isFn K (.ref f) = true
  f_Device_pending : ∃ f fd, Fun K "pending" "Device.pending" s_Device_pending f fd ∧ PySem.W.findIn K (.ref c.Device) "pending" = some (some (.ref f)) ∧ PySem.W.isFn K (.ref f) = true
  f__law_draw : ∃ f fd, Fun K "_law_draw" "_law_draw" s__law_draw f fd ∧ mg "_law_draw" = some (.ref f)
  f__law_new : ∃ f fd, Fun K "_law_new" "_law_new" s__law_new f fd ∧ mg "_law_new" = some (.ref f)
  f__law_may : ∃ f fd, Fun K "_law_may" "_law_may" s__law_may f fd ∧ mg "_law_may" = some (.ref f)
  f__law_log : ∃ f fd, Fun K "_law_log" "_law_log" s__law_log f fd ∧ mg "_law_log" = some (.ref f)
  f__law_page : ∃ f fd, Fun K "_law_page" "_law_page" s__law_page f fd ∧ mg "_law_page" = some (.ref f)
  f__law_crash : ∃ f fd, Fun K "_law_crash" "_law_crash" s__law_crash f fd ∧ mg "_law_crash" = some (.ref f)
  f__law_expected : ∃ f fd, Fun K "_law_expected" "_law_expected" s__law_expected f fd ∧ mg "_law_expected" = some (.ref f)
  f__law_done : ∃ f fd, Fun K "_law_done" "_law_done" s__law_done f fd ∧ mg "_law_done" = some (.ref f)
  f__law_same : ∃ f fd, Fun K "_law_same" "_law_same" s__law_same f fd ∧ mg "_law_same" = some (.ref f)
  f_law : ∃ f fd, Fun K "law" "law" s_law f fd ∧ mg "law" = some (.ref f)
  m_PAGE_SIZE : ∃ t, mg "PAGE_SIZE" = some (.int 256 t)
  m_HALF : ∃ t, mg "HALF" = some (.int 128 t)
  z_ValueError : mg "ValueError" = none
  z_int : mg "int" = none
  z_isinstance : mg "isinstance" = none
  z_len : mg "len" = none
  z_list : mg "list" = none
  z_min : mg "min" = none
  z_range : mg "range" = none
  z_reversed : mg "reversed" = none
  ec_PowerCut : ExcC K c.PowerCut ∧ PySem.W.kitOne K (.ref c.PowerCut) (.ref c.VaultError) = some true ∧ PySem.W.kitOne K (.ref c.PowerCut) (.type "ValueError") = some true
  ex_VaultError : ExT K mg "VaultError" c.VaultError
  ex_PowerCut : ExT K mg "PowerCut" c.PowerCut
  cl_Device : Cls K c.Device
  mk_Device : PySem.W.makesIn K c.Device = true ∧ PySem.W.keepIn K (.ref c.Device) = true
  mg_Device : mg "Device" = some (.ref c.Device)
  n_Device_pages : NoAttr K c.Device "pages"
  n_Device_page_writes : NoAttr K c.Device "page_writes"
  n_Device_durable_log : NoAttr K c.Device "durable_log"
  n_Device_log_steps : NoAttr K c.Device "log_steps"
  n_Device_done : NoAttr K c.Device "done"
  n_Device_most : NoAttr K c.Device "most"
/-! ### the reading's steps -/
local macro_rules | `(tactic| walk_at "nf") => `(tactic| first | exact id | assumption | exact Ne.symm (by assumption) | exact ne_of (by assumption) (by assumption) (by intro z; cases z) | exact ne_of_none (by assumption) (by assumption) | exact Ne.symm (ne_of_none (by assumption) (by assumption)))
local macro_rules | `(tactic| walk_at "hp") => `(tactic| first | assumption | exact upd_same | (refine' Kp.get (by assumption) ?hpa ?hpn; (case hpa => walk_at "hp"); (case hpn => walk_at "nf")) | (refine' Kp.tup (by assumption) ?hpa; (case hpa => walk_at "hp")))
local macro_rules | `(tactic| walk_at "sq") => `(tactic| first | assumption | exact SqL.of (by assumption) | exact SqT.of (by assumption) | exact Sc.sq (by assumption) | (refine' SqL.of ?hps; (case hps => walk_at "hp")) | (refine' SqT.of ?hps; (case hps => walk_at "hp")))
local macro_rules | `(tactic| walk_at "rd1") => `(tactic| (first
  | ((with_reducible refine' x_var ?vv ?_); (case vv => exact rfl))
  | ((with_reducible refine' x_ixL ?h1 ?h2 ?_); (case h1 => walk_at "sq"); (case h2 => (first | exact rfl | assumption)))
  | ((with_reducible refine' x_setL ?h1 ?h2 ?_); (case h1 => walk_at "hp"); (case h2 => (first | exact rfl | assumption)))
  | ((with_reducible refine' x_ixT ?h1 ?h2 ?_); (case h1 => walk_at "sq"); (case h2 => (first | exact rfl | assumption)))
  | ((with_reducible refine' x_lenL ?h1 ?_); (case h1 => walk_at "sq"))
  | ((with_reducible refine' x_lenT ?h1 ?_); (case h1 => walk_at "sq"))
  | ((with_reducible refine' x_I ?h1 ?_); (case h1 => (first | exact .inr ⟨by decide, by decide⟩ | exact .inl ⟨by decide, by decide⟩ | omega | exact ⟨by decide, by decide, by decide⟩ | exact fdiv_ok (by omega) (by omega))))
  | ((with_reducible refine' x_rg1 ?h1 ?h2 ?_); (case h1 => omega); (case h2 => omega))
  | ((with_reducible refine' x_rg2 ?h1 ?_); (case h1 => omega))
  | ((with_reducible refine' x_ty ?h1 ?_); (case h1 => walk_at "hp"))
  | ((with_reducible refine' x_gt ?h1 ?h2 ?_); (case h1 => walk_at "sq"); (case h2 => exact rfl))
  | ((with_reducible refine' x_fld ?h1 ?h2 ?h3 ?h4 ?_); (case h1 => walk_at "hp"); (case h2 => assumption); (case h3 => assumption); (case h4 => walk_at "lk"))
  | ((with_reducible refine' x_sfl ?h1 ?h2 ?h3 ?h4 ?h5 ?_); (case h1 => walk_at "hp"); (case h2 => assumption); (case h3 => assumption); (case h4 => walk_at "ln"); (case h5 => walk_at "pt"))
  | ((with_reducible refine' x_augI ?h1 ?h2 ?h3 ?h4 ?_); (case h1 => walk_at "hp"); (case h2 => assumption); (case h3 => assumption); (case h4 => walk_at "lk"))
  | ((with_reducible refine' x_augP ?h1 ?h2 ?h3 ?_); (case h1 => walk_at "hp"); (case h2 => walk_at "ln"); (case h3 => walk_at "pt"))
  | ((with_reducible refine' x_mt ?h1 ?h2 ?_); (case h1 => walk_at "hp"); (case h2 => walk_at "no"))
  | ((with_reducible refine' x_dgS ?h1 ?h2 ?_); (case h1 => refine' Or.inl ?h3; walk_at "hp"); (case h2 => walk_at "rv"))
  | ((with_reducible refine' x_dpS ?h1 ?h2 ?h3 ?_); (case h1 => walk_at "hp"); (case h2 => walk_at "rp"); (case h3 => exact Nat.le_of_ble_eq_true rfl))
  | ((with_reducible refine' x_g2a ?h1 ?_); (case h1 => refine' Or.inl ?h3; walk_at "hp"))
  | ((with_reducible refine' x_g2b ?h1 ?_); (case h1 => refine' Or.inl ?h3; walk_at "hp"))
  | ((with_reducible refine' x_diI ?h1 ?_); (case h1 => refine' Or.inl ?h3; walk_at "hp"))
  | ((with_reducible refine' x_dnI ?h1 ?_); (case h1 => refine' Or.inl ?h3; walk_at "hp"))
  | ((with_reducible refine' x_rev ?h1 ?_); (case h1 => walk_at "sq"))
  | ((with_reducible refine' x_iL1 ?h1 ?_); (case h1 => walk_at "sq"))
  | ((with_reducible refine' x_iT1 ?h1 ?_); (case h1 => walk_at "sq"))
  | with_reducible first
  | refine x_seq ?_ | refine x_asg ?_ | refine x_ifS ?_ | refine x_tst ?_ | refine x_op ?_ | refine x_c ?_ | refine x_I0 ?_ | refine x_bl ?_
  | refine x_cb ?_ | refine x_cons ?_ | refine x_nil ?_ | refine x_ret ?_ | refine x_retN ?_ | refine x_drop ?_ | refine x_next ?_
  | refine x_eqI ?_ | refine x_neI ?_ | refine x_eqS ?_ | refine x_neS ?_ | refine x_eqB ?_ | refine x_neB ?_ | refine x_intI ?_ | refine x_intB ?_ | refine x_and ?_ | refine x_or ?_ | refine x_not ?_
  | refine x_andV ?_ | refine x_orV ?_ | refine x_notV ?_ | refine x_ifE ?_ | refine x_ch ?_ | refine x_tup ?_ | refine x_lst ?_ | refine x_callS ?_ | refine x_sub ?_ | refine x_un ?_ | refine x_neg ?_ | refine x_tB ?_ | refine x_tfld ?_ | refine x_tsf ?_ | refine x_aug ?_ | refine x_radd ?_ | refine x_rsub ?_ | refine x_tmt ?_ | refine x_mk ?_ | refine x_tdg ?_ | refine x_tdi ?_ | refine x_tdn ?_ | refine x_tg2 ?_ | refine x_tdp ?_ | refine x_irev ?_ | refine x_isNi ?_ | refine x_isNr ?_ | refine x_isNn ?_ | refine x_notNi ?_ | refine x_notNr ?_ | refine x_notNn ?_ | refine x_bm ?_ | refine x_bm0 ?_ | refine x_gc ?_ | refine x_g0 ?_ | refine x_and255 ?_ | refine x_ifNT ?_ | refine x_ifNF ?_ | refine x_yes ?_ | refine x_isiI ?_ | refine x_isiB ?_ | refine x_ifTT ?_ | refine x_ifFF ?_ | refine x_gn ?_ | refine x_for ?_ | refine x_lc ?_ | refine x_rng1 ?_ | refine x_rng2 ?_ | refine x_iL ?_ | refine x_iT ?_ | refine x_abs ?_ | refine x_max2 ?_ | refine x_min2 ?_ | refine x_sl ?_ | refine x_part ?_ | refine x_part1 ?_ | refine x_nopart ?_))
local macro_rules | `(tactic| walk_at "rd") => `(tactic| repeat walk_at "rd1")
local macro_rules | `(tactic| walk_at "cx") => `(tactic| dsimp only [cxOf, Cx.nox, Cx.wish, L2.start, List.map_cons, List.map_nil, List.length_cons, List.length_nil, List.reduceReplicate, List.cons_append, List.nil_append, Nat.reduceAdd, Nat.reduceSub])
section
variable {P : Program} {w : World} {K : PySem.W.Frag} {mg : Str → Option Value} {base : Heap} {c : Cl}
def Dr (K : PySem.W.Frag) (H : Hp) (st sc : Addr) : Prop := ∃ (i v : Int) (ns : List Int), 0 ≤ i ∧ 0 ≤ v ∧ H st = some (.lst [.int i, .int v]) ∧ ns.length ≤ 63 ∧ Sc K H sc ns
def sp__law_draw (K : PySem.W.Frag) : Sp := fun vs H Q _ => ∃ st sc n, vs = [.ref st, .ref sc, .int n] ∧ 0 < n ∧ n < 2 ^ 64 ∧ Dr K H st sc ∧
  ∀ d H', 0 ≤ d → d < n → Dr K H' st sc → Kp (F1 st) H H' → Q (.int d) H'
theorem ok__law_draw (T : Txt K mg c) : GF P w K mg base CX0 1 "_law_draw" (sp__law_draw K) := by
  obtain ⟨f, fd, F, gm⟩ := T.f__law_draw
  refine ⟨f, fd, ["_law_state", "_law_script", "_law_size"], F.ok sc__law_draw ?_ (fun cdv A outer s H vs Q E hr h => ?_), gm, F.kp, (F.binds (ps := ["_law_state", "_law_script", "_law_size"]) fun _ _ _ _ _ _ us hl => match us, hl with | [_, _, _], _ => rfl)⟩
  · rintro vs H Q E ⟨_, _, _, rfl, _⟩
    rfl
  · obtain ⟨st, sc, n, rfl, hn0, hn1, ⟨i, v, ns, hi, hv, hst, hlen, hsc⟩, k⟩ := h
    refine ⟨_, (C8.pss_cut (ps_if (pt_cmpR op_eq (pe_ix (r := rIxL K) ix_list (pv 0) pe_int (fun _ _ => rfl)) pe_int (nomark _)) (pss_cons (ps_set (i := 3) sc__law_draw.nd rfl (Or.inl rfl) pe_int)
      (C8.pss_cut (ps_if (pt_cmpR op_gt (pe_callB (r := rLenQ K) c_len (by rfl) T.z_len PySem.boot_len (pa_cons (pv 1) pa_nil)) pe_int (nomark _)) (pss_one (ps_set (i := 3) sc__law_draw.nd rfl (Or.inl rfl) (pe_ix (r := rIxL K) ix_list (pv 1) (pe_op op_mod (pe_ix (r := rIxL K) ix_list (pv 0) pe_int (fun _ _ => rfl)) (pe_callB (r := rLenQ K) c_len (by rfl) T.z_len PySem.boot_len (pa_cons (pv 1) pa_nil))) (fun _ _ => rfl)))) pss_nil)
      (C8.pss_cut (ps_if (pt_cmpR op_lt (pv 3) pe_int (nomark _)) (pss_one (ps_set (i := 3) sc__law_draw.nd rfl (Or.inl rfl) (pe_op op_sub pe_int (pe_op op_mul pe_int (pv 3))))) pss_nil)
      (pss_cons (ps_set (i := 4) sc__law_draw.nd rfl (Or.inl rfl) (pe_op op_mod (pe_callTy c_int (by rfl) T.z_int (by decide +kernel) (pa_cons (pe_op op_mul (pe_op op_add (pe_op op_add (pv 3) (pe_op op_mul (pe_ix (r := rIxL K) ix_list (pv 0) pe_int (fun _ _ => rfl)) pe_int)) pe_int) pe_int) pa_nil)) pe_int))
      (pss_cons (ps_asg (pe_op op_mod (pe_callTy c_int (by rfl) T.z_int (by decide +kernel) (pa_cons (pe_op op_add (pe_op op_mul (pv 4) pe_int) (pe_op op_mul (pe_ix (r := rIxL K) ix_list (pv 0) pe_int (fun _ _ => rfl)) pe_int)) pa_nil)) pe_int) (pg_sub (pv 0) pe_int set_list))
      (C8.pss_cut (ps_if (PW.pt (pw_and (pt_cmpR op_ge (pv 3) (pe_op op_pow pe_int pe_int) (nomark _)) (pw_and1 (pt_cmpR op_lt (pe_ix (r := rIxL K) ix_list (pv 0) pe_int (fun _ _ => rfl)) (pe_callB (r := rLenQ K) c_len (by rfl) T.z_len PySem.boot_len (pa_cons (pv 1) pa_nil)) (nomark _))))) (pss_one (ps_asg (pv 3) (pg_sub (pv 0) pe_int set_list))) pss_nil)
      (pss_one (ps_asg (pe_op op_add (pe_ix (r := rIxL K) ix_list (pv 0) pe_int (fun _ _ => rfl)) pe_int) (pg_sub (pv 0) pe_int set_list))))))))) pss_nil)
      (pss_cons (ps_set (i := 5) sc__law_draw.nd rfl (Or.inl rfl) (pe_op op_mod (pe_callTy c_int (by rfl) T.z_int (by decide +kernel) (pa_cons (pe_ix (r := rIxL K) ix_list (pv 0) pe_int (fun _ _ => rfl)) pa_nil)) (pv 2)))
      (pss_cons (ps_asg (pe_op op_fdivW (pe_ix (r := rIxL K) ix_list (pv 0) pe_int (fun _ _ => rfl)) (pv 2)) (pg_sub (pv 0) pe_int set_list))
      (pss_one (ps_ret (pv 5)))))), ?_⟩
    walk_at "cx"
    walk_at "rd"
    have kpu : ∀ o, Kp (F1 st) H (upd H st o) := fun o => Kp.put hst id
    refine x_cut (fun σ' H' => ∃ (i' v' : Int) (u1 u2 : Option V), σ' = [some (.ref st), some (.ref sc), some (.int n), u1, u2, none] ∧ 0 ≤ i' ∧ 0 ≤ v' ∧ H' = upd H st (.lst [.int i', .int v'])) ?_ ?_
    · walk_at "rd"
      refine ite_dec (fun e => ?_) (fun e => ?_)
      · walk_at "rd"
        refine x_cut (fun σ' H' => ∃ (c : Int), σ' = [some (.ref st), some (.ref sc), some (.int n), some (.int c), none, none] ∧ H = H') ?_ ?_
        · walk_at "rd"
          refine ite_dec (fun e1 => ?_) (fun e1 => ?_)
          · have hl : (0 : Int) < ((ns.map V.int).length : Int) := e1
            have hb := Int.emod_lt_of_pos i hl
            have hb0 := Int.emod_nonneg i (Int.ne_of_gt hl)
            walk_at "rd"
            refine x_ixL hsc.sq (v := .int (ns.getD (i % ((ns.map V.int).length : Int)).toNat 0)) (atI_at (i % ((ns.map V.int).length : Int)).toNat (by omega) ?_) ?_
            · rw [List.length_map] at *
              rw [List.getElem?_map, List.getD_eq_getElem?_getD, List.getElem?_eq_getElem (by omega)]
              rfl
            · walk_at "rd"
              exact ⟨_, rfl, rfl⟩
          · exact ⟨0, rfl, rfl⟩
        · rintro σ' H' ⟨c, rfl, rfl⟩
          refine x_cut (fun σ' H' => ∃ (c : Int), 0 ≤ c ∧ σ' = [some (.ref st), some (.ref sc), some (.int n), some (.int c), none, none] ∧ H = H') ?_ ?_
          · walk_at "rd"
            refine ite_dec (fun e2 => ?_) (fun e2 => ?_)
            · walk_at "rd"
              exact ⟨_, by omega, rfl, rfl⟩
            · exact ⟨c, by omega, rfl, rfl⟩
          · rintro σ' H' ⟨c, hc, rfl, rfl⟩
            walk_at "rd"
            have hm0 : ∀ z : Int, 0 ≤ z % 4294967291 := fun z => Int.emod_nonneg z (by decide)
            refine x_cut (fun σ' H' => ∃ (v' : Int) (u1 : Option V), 0 ≤ v' ∧ σ' = [some (.ref st), some (.ref sc), some (.int n), some (.int c), u1, none] ∧ H' = upd H st (.lst [.int i, .int v'])) ?_ ?_
            · walk_at "rd"
              refine ite_dec (fun e3 => ?_) (fun e3 => ?_)
              · walk_at "rd"
                refine x_lenL (hsc.kp (kpu _)).sq ?_
                walk_at "rd"
                refine ite_dec (fun e4 => ?_) (fun e4 => ?_)
                · walk_at "rd"
                  exact ⟨c, _, hc, rfl, upd_upd⟩
                · exact ⟨_, _, hm0 _, rfl, rfl⟩
              · exact ite_bool (fun z => by cases z) (fun _ => ⟨_, _, hm0 _, rfl, rfl⟩)
            · rintro σ' H' ⟨v', u1, hv', rfl, rfl⟩
              walk_at "rd"
              exact ⟨i + 1, v', _, _, rfl, by omega, hv', upd_upd⟩
      · exact ⟨i, v, _, _, rfl, hi, hv, (upd_id hst).symm⟩
    · rintro σ' H' ⟨i', v', u1, u2, rfl, hi', hv', rfl⟩
      walk_at "rd"
      refine k _ _ (Int.emod_nonneg _ (by omega)) (Int.emod_lt_of_pos _ hn0) ⟨i', v' / n, ns, hi', Int.ediv_nonneg hv' (by omega), upd_same, hlen, ?_⟩ ?_
      · rw [upd_upd]; exact hsc.kp (kpu _)
      · rw [upd_upd]; exact kpu _
theorem Dr.kp {K : PySem.W.Frag} {F : Addr → Prop} {H H' : Hp} {st sc : Addr} (s : Kp F H H') (d : Dr K H st sc) (n : ¬ F st) : Dr K H' st sc := by
  obtain ⟨i, v, ns, hi, hv, hst, hl, hs⟩ := d
  exact ⟨i, v, ns, hi, hv, s.get hst n, hl, hs.kp s⟩
theorem Dr.ne {K : PySem.W.Frag} {H H0 : Hp} {st sc D : Addr} {o : HO} (d : H0 st = some o) (n : H0 D = none) : st ≠ D := ne_of_none d n
theorem Dr.off {K : PySem.W.Frag} {H : Hp} {st sc D : Addr} {o : HO} (d : Dr K H st sc) (n : st ≠ D) (m : ∀ u, H D = some u → ¬ Fix u) : Dr K (upd H D o) st sc := by
  obtain ⟨i, v, ns, hi, hv, hst, hl, hs⟩ := d
  refine ⟨i, v, ns, hi, hv, by rw [upd_ne n]; exact hst, hl, ?_⟩
  rcases hs with ⟨f, h⟩ | h
  · refine .inl ⟨f, ?_⟩
    rw [upd_ne fun e => m (.frz f (.lst (ns.map V.int))) (by rw [← e]; exact h) trivial]
    exact h
  · exact .inr h
end
/-! ### the device -/
structure DevS where
  pages : List (Int × List Int)
  writes : List (Int × List Int)
  log : List Int
  steps : List (Option Int)
  done : Int
  most : Option Int
def oV : Option Int → V
  | none => .non
  | some i => .int i
def aget (l : List (Int × List Int)) (n : Int) : Option (List Int) := (l.find? fun q => decide (q.1 = n)).map (·.2)
def aput (l : List (Int × List Int)) (n : Int) (v : List Int) : List (Int × List Int) :=
  if (l.any fun q => decide (q.1 = n)) = true then l.map (fun q => if q.1 = n then (q.1, v) else q) else l ++ [(n, v)]
def zeros : List Int := List.replicate 256 0
/-- a page's durable content -/
def dpg (d : DevS) (n : Int) : List Int := (aget d.pages n).getD zeros
/-- a page's content behind all pending writes -/
def cpg (d : DevS) (n : Int) : List Int := match d.writes.reverse.find? fun q => decide (q.1 = n) with
  | some q => q.2
  | none => dpg d n
def lstep (l : List Int) : Option Int → List Int
  | none => []
  | some b => l ++ [b]
def clog (d : DevS) : List Int := d.steps.foldl lstep d.log
def can (d : DevS) : Bool := match d.most with
  | none => true
  | some m => decide (d.done < m)
/-- one step of power, then f -/
def pw (d : DevS) (f : DevS → DevS) : DevS × Bool := if can d = true then (f { d with done := d.done + 1 }, true) else (d, false)
def dWrite (n : Int) (ds : List Int) (d : DevS) : DevS × Bool := pw d fun d => { d with writes := d.writes ++ [(n, ds)] }
def dSyncP (d : DevS) : DevS × Bool := pw d fun d => { d with pages := d.writes.foldl (fun l q => aput l q.1 q.2) d.pages, writes := [] }
def dByte (b : Option Int) (d : DevS) : DevS × Bool := pw d fun d => { d with steps := d.steps ++ [b] }
def dApp : List Int → DevS → DevS × Bool
  | [], d => (d, true)
  | b :: r, d => if (dByte (some b) d).2 = true then dApp r (dByte (some b) d).1 else (d, false)
def dSyncL (d : DevS) : DevS × Bool := pw d fun d => { d with log := clog d, steps := [] }
def dLimit (s : Option Int) (d : DevS) : DevS := { d with most := s.map fun s => d.done + s }
def dFate (pages : List (Int × List Int)) (q : (Int × List Int) × Int) : List (Int × List Int) :=
  if q.2 = 1 then aput pages q.1.1 q.1.2 else if q.2 = 2 then aput pages q.1.1 (q.1.2.take 128 ++ ((aget pages q.1.1).getD zeros).drop 128) else pages
def dCrash (fates : List Int) (kept : Nat) (d : DevS) : DevS :=
  { pages := (d.writes.zip fates).foldl dFate d.pages, writes := [], log := (d.steps.take kept).foldl lstep d.log, steps := [], done := d.done, most := none }
/-- a list of the owned ones that never changes -/
def Im (H : Hp) (O G : Addr → Prop) (a : Addr) (ds : List Int) : Prop := H a = some (.lst (ds.map V.int)) ∧ O a ∧ ¬ G a
def RPg (H : Hp) (O G : Addr → Prop) (p : Key × V) (q : Int × List Int) : Prop := p.1 = .inl q.1 ∧ ∃ a, p.2 = .ref a ∧ Im H O G a q.2
def RWr (H : Hp) (O G : Addr → Prop) (v : V) (q : Int × List Int) : Prop := ∃ t a, v = .ref t ∧ H t = some (.tup [.int q.1, .ref a]) ∧ Im H O G a q.2
theorem Im.kp {F O G : Addr → Prop} {H H' : Hp} {a : Addr} {ds : List Int} (s : Kp F H H') (h : Im H O G a ds) (n : ∀ b, F b → G b) : Im H' O G a ds := ⟨s.get h.1 fun z => h.2.2 (n _ z), h.2⟩
theorem RPg.im {H H' : Hp} {O O' G G' : Addr → Prop} {p : Key × V} {q : Int × List Int} (f : ∀ a ds, Im H O G a ds → Im H' O' G' a ds) (h : RPg H O G p q) : RPg H' O' G' p q := by
  obtain ⟨e, a, ev, i⟩ := h
  exact ⟨e, a, ev, f _ _ i⟩
theorem RWr.im {F : Addr → Prop} {H H' : Hp} {O O' G G' : Addr → Prop} {v : V} {q : Int × List Int} (s : Kp F H H') (f : ∀ a ds, Im H O G a ds → Im H' O' G' a ds) (h : RWr H O G v q) : RWr H' O' G' v q := by
  obtain ⟨t, a, ev, ht, i⟩ := h
  exact ⟨t, a, ev, s.tup ht, f _ _ i⟩
theorem RPg.kp {F O G : Addr → Prop} {H H' : Hp} {p : Key × V} {q : Int × List Int} (s : Kp F H H') (n : ∀ b, F b → G b) (h : RPg H O G p q) : RPg H' O G p q := h.im fun _ _ i => i.kp s n
theorem RWr.kp {F O G : Addr → Prop} {H H' : Hp} {v : V} {q : Int × List Int} (s : Kp F H H') (n : ∀ b, F b → G b) (h : RWr H O G v q) : RWr H' O G v q := h.im s fun _ _ i => i.kp s n
def DevG (p a1 a2 a4 : Addr) : Addr → Prop := fun b => b = p ∨ b = a1 ∨ b = a2 ∨ b = a4
structure DevA (c : Cl) (O : Addr → Prop) (H : Hp) (p dx a1 a2 a3 a4 : Addr) (kvs : List (Key × V)) (ws : List V) (d : DevS) : Prop where
  o : H p = some (.ins c.Device dx (F_Device (.ref a1) (.ref a2) (.ref a3) (.ref a4) (.int d.done) (oV d.most)))
  pg : H a1 = some (.dK kvs)
  pr : Paired (RPg H O (DevG p a1 a2 a4)) kvs d.pages
  wr : H a2 = some (.lst ws)
  wp : Paired (RWr H O (DevG p a1 a2 a4)) ws d.writes
  lg : Im H O (DevG p a1 a2 a4) a3 d.log
  st : H a4 = some (.lst (d.steps.map oV))
  ne : a2 ≠ a4
  ow : ∀ b, DevG p a1 a2 a4 b → O b
/-- a device at p that owns O -/
def DevAt (c : Cl) (H : Hp) (p : Addr) (O : Addr → Prop) (d : DevS) : Prop := (∃ dx a1 a2 a3 a4 kvs ws, DevA c O H p dx a1 a2 a3 a4 kvs ws d) ∧ ∀ b, O b → ∃ o, H b = some o
/-- what was owned or is new, and stands -/
def nO (O : Addr → Prop) (H H' : Hp) : Addr → Prop := fun x => (O x ∨ H x = none) ∧ ∃ o, H' x = some o
/-- a state with its objects told goes through a step that leaves them -/
theorem DevA.im {c : Cl} {F O O' : Addr → Prop} {H H' : Hp} {p dx a1 a2 a3 a4 : Addr} {kvs : List (Key × V)} {ws : List V} {d : DevS} (s : Kp F H H') (h : DevA c O H p dx a1 a2 a3 a4 kvs ws d) (n : ∀ b, F b → ¬ DevG p a1 a2 a4 b)
    (f : ∀ a ds, Im H O (DevG p a1 a2 a4) a ds → Im H' O' (DevG p a1 a2 a4) a ds) (g : ∀ b, DevG p a1 a2 a4 b → O' b) : DevA c O' H' p dx a1 a2 a3 a4 kvs ws d where
  o := s.get h.o fun z => n _ z (.inl rfl)
  pg := s.get h.pg fun z => n _ z (.inr (.inl rfl))
  pr := Paired.mono (fun _ _ r => r.im f) h.pr
  wr := s.get h.wr fun z => n _ z (.inr (.inr (.inl rfl)))
  wp := Paired.mono (fun _ _ r => r.im s f) h.wp
  lg := f _ _ h.lg
  st := s.get h.st fun z => n _ z (.inr (.inr (.inr rfl)))
  ne := h.ne
  ow := g
theorem DevA.same {c : Cl} {O : Addr → Prop} {H H' : Hp} {p dx a1 a2 a3 a4 : Addr} {kvs : List (Key × V)} {ws : List V} {d : DevS} (s : Kp F0 H H') (h : DevA c O H p dx a1 a2 a3 a4 kvs ws d) : DevA c O H' p dx a1 a2 a3 a4 kvs ws d := h.im s (fun _ z => z.elim) (fun _ _ i => i.kp s fun _ z => z.elim) h.ow
theorem DevA.own {c : Cl} {O O' : Addr → Prop} {H : Hp} {p dx a1 a2 a3 a4 : Addr} {kvs : List (Key × V)} {ws : List V} {d : DevS} (h : DevA c O H p dx a1 a2 a3 a4 kvs ws d) (n : ∀ b, O b → O' b) : DevA c O' H p dx a1 a2 a3 a4 kvs ws d :=
  h.im (Kp.refl (F := F0) _) (fun _ z => z.elim) (fun _ _ i => ⟨i.1, n _ i.2.1, i.2.2⟩) fun b z => n _ (h.ow b z)
theorem DevAt.off {c : Cl} {F O : Addr → Prop} {H H' : Hp} {p : Addr} {d : DevS} (s : Kp F H H') (h : DevAt c H p O d) (n : ∀ b, F b → ¬ O b) : DevAt c H' p O d := by
  obtain ⟨⟨dx, a1, a2, a3, a4, kvs, ws, D⟩, t⟩ := h
  refine ⟨⟨dx, a1, a2, a3, a4, kvs, ws, D.im s (fun b z g => n b z (D.ow b g)) (fun a ds i => ⟨s.get i.1 fun z => n _ z i.2.1, i.2⟩) D.ow⟩, fun b z => ?_⟩
  obtain ⟨o, ho⟩ := t b z
  exact ⟨o, s.get ho fun y => n b y z⟩
theorem DevAt.same {c : Cl} {H H' : Hp} {p : Addr} {O : Addr → Prop} {d : DevS} (s : Kp F0 H H') (h : DevAt c H p O d) : DevAt c H' p O d := h.off s fun _ z => z.elim
theorem DevAt.fresh {c : Cl} {H : Hp} {p b : Addr} {O : Addr → Prop} {d : DevS} (h : DevAt c H p O d) (hb : H b = none) : ¬ O b := fun z => by
  obtain ⟨o, ho⟩ := h.2 b z
  rw [hb] at ho; cases ho
section
variable {c : Cl} {O : Addr → Prop} {H : Hp} {p dx a1 a2 a3 a4 : Addr} {kvs : List (Key × V)} {ws : List V} {d : DevS}
theorem DevA.n12 (h : DevA c O H p dx a1 a2 a3 a4 kvs ws d) : a1 ≠ a2 := ne_of h.pg h.wr (by intro z; cases z)
theorem DevA.n14 (h : DevA c O H p dx a1 a2 a3 a4 kvs ws d) : a1 ≠ a4 := ne_of h.pg h.st (by intro z; cases z)
theorem DevA.np1 (h : DevA c O H p dx a1 a2 a3 a4 kvs ws d) : p ≠ a1 := ne_of h.o h.pg (by intro z; cases z)
theorem DevA.np2 (h : DevA c O H p dx a1 a2 a3 a4 kvs ws d) : p ≠ a2 := ne_of h.o h.wr (by intro z; cases z)
theorem DevA.np4 (h : DevA c O H p dx a1 a2 a3 a4 kvs ws d) : p ≠ a4 := ne_of h.o h.st (by intro z; cases z)
end
theorem DevAt.opn {c : Cl} {H : Hp} {p : Addr} {O0 : Addr → Prop} {d : DevS} (h : DevAt c H p O0 d) : ∃ (O : Addr → Prop) (dx a1 a2 a3 a4 : Addr) (kvs : List (Key × V)) (ws : List V),
    O = (fun x => O0 x ∨ H x = none) ∧ DevA c O H p dx a1 a2 a3 a4 kvs ws d ∧ ∀ b, DevG p a1 a2 a4 b → O0 b := by
  obtain ⟨⟨dx, a1, a2, a3, a4, kvs, ws, D⟩, _⟩ := h
  exact ⟨_, dx, a1, a2, a3, a4, kvs, ws, rfl, D.own fun _ z => .inl z, D.ow⟩
theorem DevA.clo {c : Cl} {O O0 : Addr → Prop} {H H' : Hp} {p dx a1 a2 a3 a4 : Addr} {kvs : List (Key × V)} {ws : List V} {d : DevS} (D : DevA c O H' p dx a1 a2 a3 a4 kvs ws d) (e : O = fun x => O0 x ∨ H x = none) : DevAt c H' p (nO O0 H H') d := by
  subst e
  refine ⟨⟨dx, a1, a2, a3, a4, kvs, ws, D.im (Kp.refl (F := F0) _) (fun _ z => z.elim) (fun a ds i => ⟨i.1, ⟨i.2.1, _, i.1⟩, i.2.2⟩) fun b z => ⟨D.ow b z, ?_⟩⟩, fun b z => z.2⟩
  rcases z with rfl | rfl | rfl | rfl
  · exact ⟨_, D.o⟩
  · exact ⟨_, D.pg⟩
  · exact ⟨_, D.wr⟩
  · exact ⟨_, D.st⟩
theorem Stp.nO {G O0 : Addr → Prop} {H H' : Hp} (k : Kp G H H') (g : ∀ b, G b → O0 b) : Stp O0 (nO O0 H H') H H' := ⟨k.mono fun b z => .inl (g b z), fun _ z => z.1⟩
section
variable {P : Program} {w : World} {K : PySem.W.Frag} {mg : Str → Option Value} {base : Heap} {c : Cl}
def sp_Device_init (c : Cl) : Sp := fun vs H Q _ => ∃ p dx, vs = [.ref p] ∧ H p = some (.ins c.Device dx []) ∧ ∀ H' O, DevAt c H' p O ⟨[], [], [], [], 0, none⟩ → Kp (F1 p) H H' → (∀ b, O b → b = p ∨ H b = none) → Q .non H'
theorem mk_Device (T : Txt K mg c) : GC P w K mg base CX0 1 "Device" c.Device (sp_Device_init c) := by
  obtain ⟨f, fd, F, gf, gi⟩ := T.f_Device___init__
  have tc := T.cl_Device; have t1 := T.n_Device_pages; have t2 := T.n_Device_page_writes; have t3 := T.n_Device_durable_log; have t4 := T.n_Device_log_steps; have t5 := T.n_Device_done; have t6 := T.n_Device_most
  refine ⟨f, fd, ["self"], F.ok sc_Device___init__ ?_ (fun cdv A outer s H vs Q E hr h => ?_), ⟨T.mk_Device.1, gf, gi, T.mk_Device.2⟩, T.mg_Device, (F.binds (ps := ["self"]) fun _ _ _ _ _ _ us hl => match us, hl with | [_], _ => rfl)⟩
  · rintro vs H Q E ⟨_, _, rfl, _⟩
    rfl
  · obtain ⟨p, dx, rfl, hp, k⟩ := h
    refine ⟨_, (pss_cons (ps_fld (pv 0) pe_dnewK rfl)
      (pss_cons (ps_fld (pv 0) (pe_lst pa_nil) rfl)
      (pss_cons (ps_fld (pv 0) (pe_lst pa_nil) rfl)
      (pss_cons (ps_fld (pv 0) (pe_lst pa_nil) rfl)
      (pss_cons (ps_fld (pv 0) pe_int rfl)
      (pss_one (ps_fld (pv 0) pe_non rfl))))))), ?_⟩
    walk_at "cx"
    walk_at "rd"
    refine x_dnew fun a1 H1 ha1 k1 h1 => ?_
    have n1 : p ≠ a1 := ne_of_none hp ha1
    walk_at "rd"
    intro H2 p2 k2
    have h1' := k2.get h1 n1.symm
    walk_at "rd"
    refine x_newL fun a2 H3 ha2 k3 h2 => ?_
    have n2 : p ≠ a2 := ne_of_none p2 ha2
    have n12 : a1 ≠ a2 := ne_of_none h1' ha2
    walk_at "rd"
    intro H4 p4 k4
    walk_at "rd"
    refine x_newL fun a3 H5 ha3 k5 h3 => ?_
    have n3 : p ≠ a3 := ne_of_none p4 ha3
    have h1d := k4.get (k3.get h1' id) n1.symm
    have h2d := k4.get h2 n2.symm
    have n13 : a1 ≠ a3 := ne_of_none h1d ha3
    have n23 : a2 ≠ a3 := ne_of_none h2d ha3
    walk_at "rd"
    intro H6 p6 k6
    walk_at "rd"
    refine x_newL fun a4 H7 ha4 k7 h4 => ?_
    have n4 : p ≠ a4 := ne_of_none p6 ha4
    have h1f := k6.get (k5.get h1d id) n1.symm
    have h2f := k6.get (k5.get h2d id) n2.symm
    have h3f := k6.get h3 n3.symm
    have n24 : a2 ≠ a4 := ne_of_none h2f ha4
    have n34 : a3 ≠ a4 := ne_of_none h3f ha4
    walk_at "rd"
    intro H8 p8 k8
    walk_at "rd"
    intro H9 p9 k9
    walk_at "rd"
    intro H10 p10 k10
    have kk : ∀ {b o}, H7 b = some o → p ≠ b → H10 b = some o := fun hb n => k10.get (k9.get (k8.get hb n.symm) n.symm) n.symm
    have f2 : H a2 = none := k1.free (k2.free ha2 n2.symm) id
    have f3 : H a3 = none := k1.free (k2.free (k3.free (k4.free ha3 n3.symm) id) n3.symm) id
    have f4 : H a4 = none := k1.free (k2.free (k3.free (k4.free (k5.free (k6.free ha4 n4.symm) id) n4.symm) id) n4.symm) id
    have D : DevA c (fun x => F1 p x ∨ H x = none) H10 p dx a1 a2 a3 a4 [] [] ⟨[], [], [], [], 0, none⟩ := ⟨p10, kk (k7.get h1f id) n1, .nil, kk (k7.get h2f id) n2, .nil, ⟨kk (k7.get h3f id) n3, .inr f3, by
      rintro (z | z | z | z)
      · exact n3 z.symm
      · exact n13 z.symm
      · exact n23 z.symm
      · exact n34 z⟩, kk h4 n4, n24, by
      rintro b (z | z | z | z)
      · exact .inl z
      · exact .inr (by rw [z]; exact ha1)
      · exact .inr (by rw [z]; exact f2)
      · exact .inr (by rw [z]; exact f4)⟩
    refine k H10 _ (D.clo rfl) ?_ fun b z => z.1
    · have e0 : ∀ b, F0 b → F1 p b ∨ H b = none := fun _ z => z.elim
      have e1 : ∀ b, F1 p b → F1 p b ∨ H b = none := fun _ z => .inl z
      exact (((((((((k1.mono e0).trans k2 e1).trans k3 e0).trans k4 e1).trans k5 e0).trans k6 e1).trans k7 e0).trans k8 e1).trans k9 e1).trans k10 e1
theorem DevA.mk' {O : Addr → Prop} {H H' : Hp} {p dx a1 a2 a3 a4 : Addr} {kvs : List (Key × V)} {ws : List V} {d : DevS} {n : Int} {m : Option Int} (h : DevA c O H p dx a1 a2 a3 a4 kvs ws d) (s : Kp (F1 p) H H')
    (o : H' p = some (.ins c.Device dx (F_Device (.ref a1) (.ref a2) (.ref a3) (.ref a4) (.int n) (oV m)))) : DevA c O H' p dx a1 a2 a3 a4 kvs ws { d with done := n, most := m } := by
  have q : ∀ a ds, Im H O (DevG p a1 a2 a4) a ds → Im H' O (DevG p a1 a2 a4) a ds := fun a ds i => i.kp s fun b z => .inl z
  exact ⟨o, s.get h.pg h.np1.symm, Paired.mono (fun _ _ ⟨e, a, ev, i⟩ => ⟨e, a, ev, q _ _ i⟩) h.pr, s.get h.wr h.np2.symm, Paired.mono (fun _ _ ⟨t, a, ev, ht, i⟩ => ⟨t, a, ev, s.tup ht, q _ _ i⟩) h.wp, q _ _ h.lg, s.get h.st h.np4.symm, h.ne, h.ow⟩
def sp_Device_step (c : Cl) : Sp := fun vs H Q E => ∃ O p dx a1 a2 a3 a4 kvs ws d, vs = [.ref p] ∧ DevA c O H p dx a1 a2 a3 a4 kvs ws d ∧
  (can d = true → ∀ H', DevA c O H' p dx a1 a2 a3 a4 kvs ws { d with done := d.done + 1 } → Kp (F1 p) H H' → Q .non H') ∧ (can d = false → E (.ref c.PowerCut) none H)
theorem ok_Device_step (T : Txt K mg c) : GM P w K mg base (L2.CX P w) 1 c.Device "step" (sp_Device_step c) := by
  obtain ⟨f, fd, F, gf, gi⟩ := T.f_Device_step
  have tc := T.cl_Device; have t5 := T.n_Device_done; have t6 := T.n_Device_most
  refine ⟨f, fd, ["self"], F.okX sc_Device_step ?_ (fun cdv A outer s H vs Q E hr h => ?_), ⟨gf, gi, F.kp⟩, (F.binds (ps := ["self"]) fun _ _ _ _ _ _ us hl => match us, hl with | [_], _ => rfl)⟩
  · rintro vs H Q E ⟨_, _, _, _, _, _, _, _, _, _, rfl, _⟩
    rfl
  · obtain ⟨O, p, dx, a1, a2, a3, a4, kvs, ws, d, rfl, D, k, e⟩ := h
    refine ⟨_, (pss_cons (ps_if (PW.pt (pw_and (pt_cmpR o_notN (pe_fldK rfl (pv 0)) pe_non (nomark _)) (pw_and1 (pt_cmpR op_ge (pe_fldK rfl (pv 0)) (pe_fldK rfl (pv 0)) (nomark _))))) (pss_one (ps_raise rfl (takes_of (E := E) rfl rfl rfl rfl) (pmk_X T.ex_PowerCut))) pss_nil)
      (pss_one (ps_fldaug (pv 0) pe_int in_add))), ?_⟩
    walk_at "cx"
    cases hm : d.most with
    | none =>
      have ho : H p = some (.ins c.Device dx (F_Device (.ref a1) (.ref a2) (.ref a3) (.ref a4) (.int d.done) .non)) := by have q := D.o; rw [hm] at q; exact q
      walk_at "rd"
      intro H1 p1 k1
      have q := D.mk' (n := d.done + 1) (m := d.most) k1 (by rw [hm]; exact p1)
      exact k (by unfold can; rw [hm]) H1 q k1
    | some m =>
      have ho : H p = some (.ins c.Device dx (F_Device (.ref a1) (.ref a2) (.ref a3) (.ref a4) (.int d.done) (.int m))) := by have q := D.o; rw [hm] at q; exact q
      walk_at "rd"
      refine ite_dec (fun z => ?_) fun z => ?_
      · refine e ?_
        unfold can; rw [hm]; exact decide_eq_false (by omega)
      · walk_at "rd"
        intro H1 p1 k1
        have q := D.mk' (n := d.done + 1) (m := d.most) k1 (by rw [hm]; exact p1)
        exact k (by unfold can; rw [hm]; exact decide_eq_true (by omega)) H1 q k1
/-- what a raising method of the device promises: op says what it leaves, and whether the power lasts -/
def spD (c : Cl) (H : Hp) (p : Addr) (O : Addr → Prop) (r : DevS × Bool) (Q : Hp → Prop) (E : XK) : Prop :=
  ∀ H' O', DevAt c H' p O' r.1 → Stp O O' H H' → if r.2 = true then Q H' else E (.ref c.PowerCut) none H'
theorem DevG.sub {p a1 a2 a4 : Addr} : ∀ b, F1 p b → DevG p a1 a2 a4 b := fun b z => .inl z
/-- no page is longer than a page -/
def Sz (l : List (Int × List Int)) : Prop := ∀ q ∈ l, q.2.length ≤ 256
theorem aput_sz {l : List (Int × List Int)} {n : Int} {ds : List Int} (h : Sz l) (hd : ds.length ≤ 256) : Sz (aput l n ds) := by
  intro q hq
  unfold aput at hq
  split at hq
  · obtain ⟨r, hr, rfl⟩ := List.mem_map.mp hq
    split
    · exact hd
    · exact h r hr
  · rcases List.mem_append.mp hq with hq | hq
    · exact h q hq
    · rw [List.mem_singleton.mp hq]; exact hd
theorem aget_sz {l : List (Int × List Int)} {n : Int} (h : Sz l) : ((aget l n).getD zeros).length ≤ 256 := by
  unfold aget
  cases e : l.find? fun q => decide (q.1 = n) with
  | none => show zeros.length ≤ 256; unfold zeros; rw [List.length_replicate]; exact Nat.le_refl _
  | some q => exact h q (List.mem_of_find?_eq_some e)
theorem puts_sz : ∀ {ws l : List (Int × List Int)}, Sz l → Sz ws → Sz (ws.foldl (fun l q => aput l q.1 q.2) l)
  | [], _, h, _ => h
  | q :: ws, l, h, hw => puts_sz (ws := ws) (aput_sz h (hw q (by simp))) fun r hr => hw r (List.mem_cons_of_mem _ hr)
theorem dFate_sz {l : List (Int × List Int)} {q : (Int × List Int) × Int} (h : Sz l) (hq : q.1.2.length ≤ 256) : Sz (dFate l q) := by
  unfold dFate
  split
  · exact aput_sz h hq
  · split
    · refine aput_sz h ?_
      have := aget_sz (n := q.1.1) h
      rw [List.length_append, List.length_take, List.length_drop]; omega
    · exact h
theorem dFates_sz : ∀ {ws : List ((Int × List Int) × Int)} {l : List (Int × List Int)}, Sz l → (∀ q ∈ ws, q.1.2.length ≤ 256) → Sz (ws.foldl dFate l)
  | [], _, h, _ => h
  | q :: ws, l, h, hw => dFates_sz (ws := ws) (dFate_sz h (hw q (by simp))) fun r hr => hw r (List.mem_cons_of_mem _ hr)
/-- what a device's state may hold at most -/
def Sml (d : DevS) : Prop := d.writes.length ≤ 1000000 ∧ d.pages.length + d.writes.length ≤ 2000000 ∧ d.log.length + d.steps.length ≤ 8000000 ∧ Sz d.pages ∧ Sz d.writes
theorem F1.g {p a1 a2 a4 : Addr} {H : Hp} : ∀ b, F1 p b → DevG p a1 a2 a4 b ∨ H b = none := fun b z => .inl (.inl z)
theorem spD.yes {H : Hp} {p : Addr} {O : Addr → Prop} {d : DevS} {fn : DevS → DevS} {Q : Hp → Prop} {E : XK} (k : spD c H p O (pw d fn) Q E) (hc : can d = true) {H' : Hp} {O' : Addr → Prop} (D : DevAt c H' p O' (fn { d with done := d.done + 1 })) (s : Stp O O' H H') : Q H' := by
  unfold spD pw at k
  rw [if_pos hc] at k
  have q := k H' O' D s
  rw [if_pos rfl] at q
  exact q
theorem spD.no {H : Hp} {p : Addr} {O : Addr → Prop} {d : DevS} {fn : DevS → DevS} {Q : Hp → Prop} {E : XK} (k : spD c H p O (pw d fn) Q E) (hc : can d = false) (D : DevAt c H p O d) : E (.ref c.PowerCut) none H := by
  unfold spD pw at k
  rw [if_neg (by rw [hc]; exact Bool.false_ne_true)] at k
  have q := k H O D (Stp.refl _ _)
  rw [if_neg (by exact Bool.false_ne_true)] at q
  exact q
/-- a fresh object is none of the footprint -/
theorem DevA.fresh {O : Addr → Prop} {H : Hp} {p dx a1 a2 a3 a4 b : Addr} {kvs : List (Key × V)} {ws : List V} {d : DevS} (D : DevA c O H p dx a1 a2 a3 a4 kvs ws d) (hb : H b = none) : ¬ DevG p a1 a2 a4 b := by
  rintro (z | z | z | z)
  · exact ne_of_none D.o hb z.symm
  · exact ne_of_none D.pg hb z.symm
  · exact ne_of_none D.wr hb z.symm
  · exact ne_of_none D.st hb z.symm
theorem DevA.trk {O : Addr → Prop} {H : Hp} {p dx a1 a2 a3 a4 b : Addr} {kvs : List (Key × V)} {ws : List V} {d : DevS} (D : DevA c O H p dx a1 a2 a3 a4 kvs ws d) (g : DevG p a1 a2 a4 b) : ∃ o, H b = some o := by
  rcases g with rfl | rfl | rfl | rfl
  · exact ⟨_, D.o⟩
  · exact ⟨_, D.pg⟩
  · exact ⟨_, D.wr⟩
  · exact ⟨_, D.st⟩
def sp_Device_write_page (c : Cl) (K : PySem.W.Frag) : Sp := fun vs H Q E => ∃ p O d n l ds, vs = [.ref p, .int n, .ref l] ∧ DevAt c H p O d ∧ SqL K H l (ds.map V.int) ∧ ¬ O l ∧ Sml d ∧ spD c H p O (dWrite n ds d) (Q .non) E
theorem ok_Device_write_page (T : Txt K mg c) : GM P w K mg base (L2.CX P w) 2 c.Device "write_page" (sp_Device_write_page c K) := by
  obtain ⟨f, fd, F, gf, gi⟩ := T.f_Device_write_page
  have tc_Device := T.cl_Device; have tn_Device_pages := T.n_Device_pages; have tn_Device_page_writes := T.n_Device_page_writes; have tn_Device_durable_log := T.n_Device_durable_log; have tn_Device_log_steps := T.n_Device_log_steps; have tn_Device_done := T.n_Device_done; have tn_Device_most := T.n_Device_most
  refine ⟨f, fd, ["self", "number", "data"], F.okX sc_Device_write_page ?_ (fun cdv A outer s H vs Q E hr h => ?_), ⟨gf, gi, F.kp⟩, (F.binds (ps := ["self", "number", "data"]) fun _ _ _ _ _ _ us hl => match us, hl with | [_, _, _], _ => rfl)⟩
  · rintro vs H Q E ⟨_, _, _, _, _, _, rfl, _⟩
    rfl
  · obtain ⟨p, O0, d, n, l, ds, rfl, hD, hl, nl, sm, k⟩ := h
    obtain ⟨O, dx, a1, a2, a3, a4, kvs, ws, eO, D, og⟩ := hD.opn
    have fr : ∀ {x}, H x = none → O x := fun h => by rw [eO]; exact .inr h
    have ho := D.o
    refine ⟨_, (pss_cons (ps_expr (pe_gm0 T.cl_Device (ok_Device_step T) (pv 0) (hr.mono (by decide)) (passE (E := E) rfl rfl rfl rfl)))
      (pss_one (ps_expr (pe_kBM rfl (pe_bm PySem.F.plainAttrs_list PySem.F.slot_list_append PySem.F.type_list_append mt_append (pe_fldK rfl (pv 0)) (pa_cons (pe_tup (pa_cons (pv 1) (pa_cons (pe_callTy (r := rLstQ K) c_list (by rfl) T.z_list (by decide +kernel) (pa_cons (pv 2) pa_nil)) pa_nil))) pa_nil)))))), ?_⟩
    walk_at "cx"
    walk_at "rd"
    refine ⟨O, p, dx, a1, a2, a3, a4, kvs, ws, d, rfl, D, fun hc H1 D1 k1 => ?_, fun hc => k.no hc hD⟩
    have ho1 := D1.o
    have hw1 := D1.wr
    walk_at "rd"
    refine x_lstL (k1.sqL hl fun z => nl (og _ (.inl z))) fun b H2 hb k2 hb2 => ?_
    walk_at "rd"
    refine x_newT fun t H3 ht k3 ht3 => ?_
    walk_at "rd"
    have D3 := (D1.same k2).same k3
    have lw : ws.length = d.writes.length := D.wp.length
    refine x_app D3.wr (by have := sm.1; omega) fun H4 hw4 k4 => ?_
    have nb := D1.fresh hb
    have sub : ∀ x, F1 a2 x → DevG p a1 a2 a4 x := fun x z => .inr (.inr (.inl z))
    have D4 : DevA c O H4 p dx a1 a2 a3 a4 kvs (ws ++ [.ref t]) { d with writes := d.writes ++ [(n, ds)], done := d.done + 1 } :=
      ⟨k4.get D3.o D3.np2, k4.get D3.pg D3.n12, Paired.mono (fun _ _ r => r.kp k4 sub) D3.pr, hw4, (Paired.mono (fun _ _ r => r.kp k4 sub) D3.wp).snoc ⟨t, b, rfl, k4.tup ht3, k4.get (k3.get hb2 id) fun z => nb (sub b z), fr (k1.free hb fun z => nb (.inl z)), nb⟩, D3.lg.kp k4 sub, k4.get D3.st D3.ne.symm, D3.ne, D3.ow⟩
    exact k.yes hc (D4.clo eO) (Stp.nO (G := DevG p a1 a2 a4) (((k1.mono F1.g).trans k2 fun _ z => z.elim).trans k3 (fun _ z => z.elim) |>.trans k4 fun b z => .inl (.inr (.inr (.inl z)))) og)
theorem any_pr {R : Key × V → Int × List Int → Prop} (hR : ∀ p q, R p q → p.1 = .inl q.1) (n : Int) : ∀ {kvs : List (Key × V)} {l : List (Int × List Int)}, Paired R kvs l → (kvs.any fun kv => decide (kv.1 = .inl n)) = l.any fun q => decide (q.1 = n)
  | _, _, .nil => rfl
  | _, _, .cons (a := p) (b := q) h t => by
    rw [List.any_cons, List.any_cons, any_pr hR n t, hR p q h]
    congr 1
    exact decide_eq_decide.mpr ⟨fun e => Sum.inl.inj e, fun e => by rw [e]⟩
theorem map_pr {R : Key × V → Int × List Int → Prop} (hR : ∀ p q, R p q → p.1 = .inl q.1) {n : Int} {v : V} {ds : List Int} (h : R (.inl n, v) (n, ds)) : ∀ {kvs : List (Key × V)} {l : List (Int × List Int)}, Paired R kvs l →
    Paired R (kvs.map fun kv => if kv.1 = .inl n then (kv.1, v) else kv) (l.map fun q => if q.1 = n then (q.1, ds) else q)
  | _, _, .nil => .nil
  | _, _, .cons (a := p) (b := q) r t => by
    refine .cons ?_ (map_pr hR h t)
    have e := hR p q r
    show R (if p.1 = .inl n then (p.1, v) else p) (if q.1 = n then (q.1, ds) else q)
    by_cases z : q.1 = n
    · rw [if_pos (by rw [e, z]), if_pos z, e, z]; exact h
    · rw [if_neg (by rw [e]; exact fun w => z (Sum.inl.inj w)), if_neg z]; exact r
theorem put_pr {R : Key × V → Int × List Int → Prop} (hR : ∀ p q, R p q → p.1 = .inl q.1) {n : Int} {v : V} {ds : List Int} (h : R (.inl n, v) (n, ds)) {kvs : List (Key × V)} {l : List (Int × List Int)} (t : Paired R kvs l) : Paired R (putK kvs (.inl n) v) (aput l n ds) := by
  unfold putK aput
  rw [any_pr hR n t]
  split
  · exact map_pr hR h t
  · exact t.snoc h
theorem get_pr {R : Key × V → Int × List Int → Prop} (hR : ∀ p q, R p q → p.1 = .inl q.1) (n : Int) : ∀ {kvs : List (Key × V)} {l : List (Int × List Int)}, Paired R kvs l →
    (valV kvs (.inl n) = none ∧ aget l n = none) ∨ ∃ v ds, valV kvs (.inl n) = some v ∧ aget l n = some ds ∧ R (.inl n, v) (n, ds)
  | _, _, .nil => .inl ⟨rfl, rfl⟩
  | _, _, .cons (a := p) (b := q) (l₁ := kvs) (l₂ := l) r t => by
    have e := hR p q r
    by_cases z : q.1 = n
    · refine .inr ⟨p.2, q.2, valV_pos (by rw [e, z]), ?_, ?_⟩
      · unfold aget
        rw [List.find?_cons_of_pos (by exact decide_eq_true z)]; rfl
      · have : p = (.inl n, p.2) := by rw [← z, ← e]
        have e2 : q = (n, q.2) := by rw [← z]
        rw [← this, ← e2]; exact r
    · have h1 : valV (p :: kvs) (.inl n) = valV kvs (.inl n) := valV_neg (by rw [e]; exact fun w => z (Sum.inl.inj w))
      have h2 : aget (q :: l) n = aget l n := by
        unfold aget
        rw [List.find?_cons_of_neg (by simpa using z)]
      rw [h1, h2]
      exact get_pr hR n t
theorem RPg.key {H : Hp} {O G : Addr → Prop} : ∀ p q, RPg H O G p q → p.1 = .inl q.1 := fun _ _ h => h.1
theorem aput_len (l : List (Int × List Int)) (n : Int) (v : List Int) : (aput l n v).length ≤ l.length + 1 := by
  unfold aput; split
  · rw [List.length_map]; omega
  · rw [List.length_append]; exact Nat.le_refl _
theorem puts_len : ∀ (l : List (Int × List Int)) (pages : List (Int × List Int)), (l.foldl (fun l q => aput l q.1 q.2) pages).length ≤ pages.length + l.length
  | [], _ => Nat.le_refl _
  | q :: l, pages => by
    have h1 := puts_len l (aput pages q.1 q.2)
    have h2 := aput_len pages q.1 q.2
    show (l.foldl (fun l q => aput l q.1 q.2) (aput pages q.1 q.2)).length ≤ pages.length + (l.length + 1)
    omega
theorem pget {α β : Type} {R : α → β → Prop} : ∀ {l : List α} {m : List β} {i : Nat} {x : α}, Paired R l m → l[i]? = some x → ∃ y, m[i]? = some y ∧ R x y
  | _, _, 0, _, .cons h _, e => by cases (Option.some.inj e); exact ⟨_, rfl, h⟩
  | _, _, i + 1, _, .cons _ t, e => pget (i := i) t e
  | _, _, _, _, .nil, e => by simp at e
def sp_Device_sync_pages (c : Cl) : Sp := fun vs H Q E => ∃ p O d, vs = [.ref p] ∧ DevAt c H p O d ∧ Sml d ∧ spD c H p O (dSyncP d) (Q .non) E
theorem ok_Device_sync_pages (T : Txt K mg c) : GM P w K mg base (L2.CX P w) 2 c.Device "sync_pages" (sp_Device_sync_pages c) := by
  obtain ⟨f, fd, F, gf, gi⟩ := T.f_Device_sync_pages
  have tc_Device := T.cl_Device; have tn_Device_pages := T.n_Device_pages; have tn_Device_page_writes := T.n_Device_page_writes; have tn_Device_durable_log := T.n_Device_durable_log; have tn_Device_log_steps := T.n_Device_log_steps; have tn_Device_done := T.n_Device_done; have tn_Device_most := T.n_Device_most
  refine ⟨f, fd, ["self"], F.okX sc_Device_sync_pages ?_ (fun cdv A outer s H vs Q E hr h => ?_), ⟨gf, gi, F.kp⟩, (F.binds (ps := ["self"]) fun _ _ _ _ _ _ us hl => match us, hl with | [_], _ => rfl)⟩
  · rintro vs H Q E ⟨_, _, _, rfl, _⟩
    rfl
  · obtain ⟨p, O0, d, rfl, hD, sm, k⟩ := h
    obtain ⟨O, dx, a1, a2, a3, a4, kvs, ws, eO, D, og⟩ := hD.opn
    have fr : ∀ {x}, H x = none → O x := fun h => by rw [eO]; exact .inr h
    have ho := D.o
    refine ⟨_, (pss_cons (ps_expr (pe_gm0 T.cl_Device (ok_Device_step T) (pv 0) (hr.mono (by decide)) (passE (E := E) rfl rfl rfl rfl)))
      (pss_cons (ps_for (passes_of rfl) rfl (pi_listK rfl (pe_fldK rfl (pv 0))) (pg_kT rfl (pg_tup (n := 2) rfl (pgs_cons (pg_name (i := 1) sc_Device_sync_pages.nd rfl (Or.inl rfl)) (pgs_cons (pg_name (i := 2) sc_Device_sync_pages.nd rfl (Or.inl rfl)) pgs_nil)))) (pss_one (ps_dput (hu_of hr) (pe_fldK rfl (pv 0)) (pv 1) (pv 2) rfl)))
      (pss_one (ps_fld (pv 0) (pe_lst pa_nil) rfl)))), ?_⟩
    walk_at "cx"
    walk_at "rd"
    refine ⟨O, p, dx, a1, a2, a3, a4, kvs, ws, d, rfl, D, fun hc H1 D1 k1 => ?_, fun hc => k.no hc hD⟩
    have ho1 := D1.o
    have hw1 := D1.wr
    walk_at "rd"
    refine wfor Wk.list (fun i σ H' => ∃ kvs' u v, σ = [some (.ref p), u, v] ∧ DevA c O H' p dx a1 a2 a3 a4 kvs' ws { d with pages := (d.writes.take i).foldl (fun l q => aput l q.1 q.2) d.pages, done := d.done + 1 } ∧ Kp (DevG p a1 a2 a4) H H')
      ⟨kvs, none, none, rfl, D1, k1.mono F1.g⟩ (fun i σ H' ⟨_, _, _, _, D', _⟩ => SqL.of D'.wr) ?_ ?_
    · rintro i x σ H2 ex ⟨kvs', u, v, rfl, D2, kk⟩
      obtain ⟨q, eq, t, a, rfl, ht, hi⟩ := pget D2.wp ex
      have ho2 := D2.o
      have hp2 := D2.pg
      have eq' : d.writes[i]? = some q := eq
      have hl : kvs'.length = ((d.writes.take i).foldl (fun l q => aput l q.1 q.2) d.pages).length := D2.pr.length
      have hl2 := puts_len (d.writes.take i) d.pages
      have hl3 : (d.writes.take i).length ≤ d.writes.length := by rw [List.length_take]; omega
      walk_at "rd"
      refine x_dpI hp2 (by have := sm.1; have := sm.2.1; omega) fun H3 hp3 k3 => ?_
      have sub : ∀ x, F1 a1 x → DevG p a1 a2 a4 x := fun x z => .inr (.inl z)
      refine ⟨putK kvs' (.inl q.1) (.ref a), _, _, rfl, ?_, kk.trans k3 fun x z => .inl (sub x z)⟩
      have e : (d.writes.take (i + 1)).foldl (fun l q => aput l q.1 q.2) d.pages = aput ((d.writes.take i).foldl (fun l q => aput l q.1 q.2) d.pages) q.1 q.2 := by
        rw [List.take_succ, eq', List.foldl_append]; rfl
      rw [e]
      exact ⟨k3.get D2.o D2.np1, hp3, put_pr RPg.key ⟨rfl, a, rfl, hi.kp k3 sub⟩ (Paired.mono (fun _ _ r => r.kp k3 sub) D2.pr), k3.get D2.wr D2.n12.symm, Paired.mono (fun _ _ r => r.kp k3 sub) D2.wp, D2.lg.kp k3 sub, k3.get D2.st D2.n14.symm, D2.ne, D2.ow⟩
    · rintro σ H2 ⟨kvs', u, v, rfl, D2, kk⟩
      have lw : ws.length = d.writes.length := D.wp.length
      rw [lw, List.take_length] at D2
      have ho2 := D2.o
      walk_at "rd"
      refine x_newL fun b H3 hb k3 hb3 => ?_
      have D3 := D2.same k3
      have ho3 := D3.o
      walk_at "rd"
      intro H4 p4 k4
      have nb := D2.fresh hb
      have nbp : b ≠ p := fun z => nb (.inl z)
      have nb1 : b ≠ a1 := fun z => nb (.inr (.inl z))
      have nb4 : b ≠ a4 := fun z => nb (.inr (.inr (.inr z)))
      have k24 : Kp (DevG p a1 a2 a4) H2 H4 := (k3.mono fun _ z => z.elim).trans k4 fun x z => .inl (.inl z)
      have im : ∀ a ds, Im H2 O (DevG p a1 a2 a4) a ds → Im H4 O (DevG p a1 b a4) a ds := fun a ds i => ⟨k24.get i.1 i.2.2, i.2.1, by
        rintro (z | z | z | z)
        · exact i.2.2 (.inl z)
        · exact i.2.2 (.inr (.inl z))
        · exact ne_of_none i.1 hb z
        · exact i.2.2 (.inr (.inr (.inr z)))⟩
      have D4 : DevA c O H4 p dx a1 b a3 a4 kvs' [] { d with pages := d.writes.foldl (fun l q => aput l q.1 q.2) d.pages, writes := [], done := d.done + 1 } :=
        ⟨p4, k4.get D3.pg D3.np1.symm, Paired.mono (fun _ _ r => r.im im) D2.pr, k4.get hb3 nbp, .nil, im _ _ D2.lg, k4.get D3.st D3.np4.symm, nb4, by
          rintro x (z | z | z | z)
          · exact D.ow _ (.inl z)
          · exact D.ow _ (.inr (.inl z))
          · rw [z]; exact fr (kk.free hb nb)
          · exact D.ow _ (.inr (.inr (.inr z)))⟩
      exact k.yes hc (D4.clo eO) (Stp.nO (G := DevG p a1 a2 a4) (kk.trans k24 fun _ z => .inl z) og)
/-- one more step of the log -/
theorem DevA.byte {O : Addr → Prop} {H H' : Hp} {p dx a1 a2 a3 a4 : Addr} {kvs : List (Key × V)} {ws : List V} {d : DevS} {b : Option Int} (D : DevA c O H p dx a1 a2 a3 a4 kvs ws d) (k4 : Kp (F1 a4) H H') (h : H' a4 = some (.lst (d.steps.map oV ++ [oV b]))) : DevA c O H' p dx a1 a2 a3 a4 kvs ws { d with steps := d.steps ++ [b] } := by
  have sub : ∀ x, F1 a4 x → DevG p a1 a2 a4 x := fun x z => .inr (.inr (.inr z))
  exact ⟨k4.get D.o D.np4, k4.get D.pg D.n14, Paired.mono (fun _ _ r => r.kp k4 sub) D.pr, k4.get D.wr D.ne, Paired.mono (fun _ _ r => r.kp k4 sub) D.wp, D.lg.kp k4 sub, by rw [h]; simp, D.ne, D.ow⟩
def sp_Device_append (c : Cl) (K : PySem.W.Frag) : Sp := fun vs H Q E => ∃ p O d l bs, vs = [.ref p, .ref l] ∧ DevAt c H p O d ∧ SqL K H l (bs.map V.int) ∧ ¬ O l ∧ Sml d ∧ bs.length ≤ 8000000 ∧ spD c H p O (dApp bs d) (Q .non) E
theorem dApp_app : ∀ (bs : List Int) (d : DevS) (b : Int), (dApp bs d).2 = true → dApp (bs ++ [b]) d = dByte (some b) (dApp bs d).1
  | [], d, b, _ => by
    show (if (dByte (some b) d).2 = true then ((dByte (some b) d).1, true) else (d, false)) = dByte (some b) d
    unfold dByte pw
    by_cases h : can d = true
    · rw [if_pos h, if_pos rfl]
    · rw [if_neg h, if_neg Bool.false_ne_true]
  | x :: bs, d, b, h => by
    show (if (dByte (some x) d).2 = true then dApp (bs ++ [b]) (dByte (some x) d).1 else (d, false)) = _
    by_cases q : (dByte (some x) d).2 = true
    · have e : dApp (x :: bs) d = dApp bs (dByte (some x) d).1 := by show (if _ then _ else _) = _; rw [if_pos q]
      rw [if_pos q, e]
      rw [e] at h
      exact dApp_app bs _ b h
    · have e : dApp (x :: bs) d = (d, false) := by show (if _ then _ else _) = _; rw [if_neg q]
      rw [e] at h
      cases h
theorem dApp_stop : ∀ (bs cs : List Int) (d : DevS) (b : Int), (dApp bs d).2 = true → can (dApp bs d).1 = false → dApp (bs ++ b :: cs) d = ((dApp bs d).1, false)
  | [], cs, d, b, _, h => by
    show (if (dByte (some b) d).2 = true then _ else (d, false)) = (d, false)
    have : (dByte (some b) d).2 = false := by unfold dByte pw; rw [if_neg (by rw [show can d = false from h]; exact Bool.false_ne_true)]
    rw [this]; rfl
  | x :: bs, cs, d, b, h, g => by
    show (if (dByte (some x) d).2 = true then dApp (bs ++ b :: cs) (dByte (some x) d).1 else (d, false)) = _
    by_cases q : (dByte (some x) d).2 = true
    · have e : dApp (x :: bs) d = dApp bs (dByte (some x) d).1 := by show (if _ then _ else _) = _; rw [if_pos q]
      rw [if_pos q, e]
      rw [e] at h g
      exact dApp_stop bs cs _ b h g
    · have e : dApp (x :: bs) d = (d, false) := by show (if _ then _ else _) = _; rw [if_neg q]
      rw [e] at h
      cases h
theorem dByte_steps (b : Option Int) (d : DevS) : (dByte b d).1.steps.length ≤ d.steps.length + 1 := by
  unfold dByte pw; split
  · show (d.steps ++ [b]).length ≤ _; rw [List.length_append]; exact Nat.le_refl _
  · exact Nat.le_succ _
theorem dApp_steps : ∀ (bs : List Int) (d : DevS), (dApp bs d).1.steps.length ≤ d.steps.length + bs.length
  | [], _ => Nat.le_refl _
  | x :: bs, d => by
    show (if (dByte (some x) d).2 = true then dApp bs (dByte (some x) d).1 else (d, false)).1.steps.length ≤ d.steps.length + (bs.length + 1)
    have h1 := dApp_steps bs (dByte (some x) d).1
    have h2 := dByte_steps (some x) d
    split
    · omega
    · show d.steps.length ≤ _; omega
theorem ok_Device_append (T : Txt K mg c) : GM P w K mg base (L2.CX P w) 2 c.Device "append" (sp_Device_append c K) := by
  obtain ⟨f, fd, F, gf, gi⟩ := T.f_Device_append
  have tc_Device := T.cl_Device; have tn_Device_pages := T.n_Device_pages; have tn_Device_page_writes := T.n_Device_page_writes; have tn_Device_durable_log := T.n_Device_durable_log; have tn_Device_log_steps := T.n_Device_log_steps; have tn_Device_done := T.n_Device_done; have tn_Device_most := T.n_Device_most
  refine ⟨f, fd, ["self", "data"], F.okX sc_Device_append ?_ (fun cdv A outer s H vs Q E hr h => ?_), ⟨gf, gi, F.kp⟩, (F.binds (ps := ["self", "data"]) fun _ _ _ _ _ _ us hl => match us, hl with | [_, _], _ => rfl)⟩
  · rintro vs H Q E ⟨_, _, _, _, _, rfl, _⟩
    rfl
  · obtain ⟨p, O0, d, l, bs, rfl, hD, hl, nl, sm, hz, k⟩ := h
    obtain ⟨O, dx, a1, a2, a3, a4, kvs, ws, eO, D, og⟩ := hD.opn
    have fr : ∀ {x}, H x = none → O x := fun h => by rw [eO]; exact .inr h
    have ho := D.o
    refine ⟨_, (pss_one (ps_for (passes_of rfl) rfl (pi_listK rfl (pv 1)) (pg_name (i := 2) sc_Device_append.nd rfl (Or.inl rfl)) (pss_cons (ps_expr (pe_gm0 T.cl_Device (ok_Device_step T) (pv 0) (hr.mono (by decide)) (passE (E := E) rfl rfl rfl rfl)))
      (pss_one (ps_expr (pe_kBM rfl (pe_bm PySem.F.plainAttrs_list PySem.F.slot_list_append PySem.F.type_list_append mt_append (pe_fldK rfl (pv 0)) (pa_cons (pv 2) pa_nil)))))))), ?_⟩
    walk_at "cx"
    walk_at "rd"
    refine wfor Wk.list (fun i σ H' => ∃ u, σ = [some (.ref p), some (.ref l), u] ∧ (dApp (bs.take i) d).2 = true ∧ DevA c O H' p dx a1 a2 a3 a4 kvs ws (dApp (bs.take i) d).1 ∧ Kp (DevG p a1 a2 a4) H H')
      ⟨none, rfl, rfl, D, Kp.refl _⟩ (fun i σ H' ⟨_, _, _, _, kk⟩ => kk.sqL hl fun z => nl (og _ z)) ?_ ?_
    · rintro i x σ H2 ex ⟨u, rfl, hb, D2, kk⟩
      have eb : ∃ b, bs[i]? = some b ∧ x = .int b := by
        rw [List.getElem?_map] at ex
        cases q : bs[i]? with
        | none => rw [q] at ex; cases ex
        | some z => rw [q] at ex; exact ⟨z, rfl, (Option.some.inj ex).symm⟩
      obtain ⟨b, eb, rfl⟩ := eb
      have ho2 := D2.o
      have tk : bs.take (i + 1) = bs.take i ++ [b] := by rw [List.take_succ, eb]; rfl
      walk_at "rd"
      refine ⟨O, p, dx, a1, a2, a3, a4, kvs, ws, _, rfl, D2, fun hc H3 D3 k3 => ?_, fun hc => ?_⟩
      · have ho3 := D3.o
        have hs3 := D3.st
        walk_at "rd"
        refine x_app hs3 (by
          have h1 := dApp_steps (bs.take i) d
          have h2 : (bs.take i).length ≤ bs.length := by rw [List.length_take]; omega
          have h3 := sm.2.2.1
          rw [List.length_map]
          show (dApp (bs.take i) d).1.steps.length < 16777216
          omega) fun H4 h4 k4 => ?_
        have e := dApp_app (bs.take i) d b hb
        rw [tk, e]
        have D4 := D3.byte (b := some b) k4 h4
        refine ⟨_, rfl, ?_, ?_, (kk.trans (k3.mono F1.g) fun x z => .inl z).trans k4 fun x z => .inl (.inr (.inr (.inr z)))⟩
        · unfold dByte pw; rw [if_pos hc]
        · unfold dByte pw; rw [if_pos hc]; exact D4
      · have e : dApp bs d = ((dApp (bs.take i) d).1, false) := by
          have q := dApp_stop (bs.take i) (bs.drop (i + 1)) d b hb hc
          have hi : i < bs.length := (List.getElem?_eq_some_iff.mp eb).1
          have hbi : bs[i] = b := (List.getElem?_eq_some_iff.mp eb).2
          rw [← hbi, ← List.drop_eq_getElem_cons hi, List.take_append_drop] at q
          exact q
        have q := k H2 _ (by rw [e]; exact D2.clo eO) (Stp.nO kk og)
        rw [e, if_neg (by exact Bool.false_ne_true)] at q
        exact q
    · rintro σ H2 ⟨u, rfl, hb, D2, kk⟩
      rw [List.length_map, List.take_length] at hb D2
      have q := k H2 _ (D2.clo eO) (Stp.nO kk og)
      rw [if_pos hb] at q
      exact q
def sp_Device_clear (c : Cl) : Sp := fun vs H Q E => ∃ p O d, vs = [.ref p] ∧ DevAt c H p O d ∧ Sml d ∧ spD c H p O (dByte none d) (Q .non) E
theorem ok_Device_clear (T : Txt K mg c) : GM P w K mg base (L2.CX P w) 2 c.Device "clear" (sp_Device_clear c) := by
  obtain ⟨f, fd, F, gf, gi⟩ := T.f_Device_clear
  have tc_Device := T.cl_Device; have tn_Device_pages := T.n_Device_pages; have tn_Device_page_writes := T.n_Device_page_writes; have tn_Device_durable_log := T.n_Device_durable_log; have tn_Device_log_steps := T.n_Device_log_steps; have tn_Device_done := T.n_Device_done; have tn_Device_most := T.n_Device_most
  refine ⟨f, fd, ["self"], F.okX sc_Device_clear ?_ (fun cdv A outer s H vs Q E hr h => ?_), ⟨gf, gi, F.kp⟩, (F.binds (ps := ["self"]) fun _ _ _ _ _ _ us hl => match us, hl with | [_], _ => rfl)⟩
  · rintro vs H Q E ⟨_, _, _, rfl, _⟩
    rfl
  · obtain ⟨p, O0, d, rfl, hD, sm, k⟩ := h
    obtain ⟨O, dx, a1, a2, a3, a4, kvs, ws, eO, D, og⟩ := hD.opn
    have fr : ∀ {x}, H x = none → O x := fun h => by rw [eO]; exact .inr h
    have ho := D.o
    refine ⟨_, (pss_cons (ps_expr (pe_gm0 T.cl_Device (ok_Device_step T) (pv 0) (hr.mono (by decide)) (passE (E := E) rfl rfl rfl rfl)))
      (pss_one (ps_expr (pe_kBM rfl (pe_bm PySem.F.plainAttrs_list PySem.F.slot_list_append PySem.F.type_list_append mt_append (pe_fldK rfl (pv 0)) (pa_cons pe_non pa_nil)))))), ?_⟩
    walk_at "cx"
    walk_at "rd"
    refine ⟨O, p, dx, a1, a2, a3, a4, kvs, ws, d, rfl, D, fun hc H1 D1 k1 => ?_, fun hc => k.no hc hD⟩
    have ho1 := D1.o
    have hs1 := D1.st
    walk_at "rd"
    refine x_app hs1 (by rw [List.length_map]; have := sm.2.2.1; show d.steps.length < _; omega) fun H4 h4 k4 => ?_
    exact k.yes hc ((D1.byte (b := none) k4 h4).clo eO) (Stp.nO (G := DevG p a1 a2 a4) ((k1.mono F1.g).trans k4 fun x z => .inl (.inr (.inr (.inr z)))) og)
def sp_Device_log (c : Cl) : Sp := fun vs H Q _ => ∃ p O d, vs = [.ref p] ∧ DevAt c H p O d ∧ Sml d ∧ ∀ b H', H b = none → Kp F0 H H' → H' b = some (.lst ((clog d).map V.int)) → Q (.ref b) H'
theorem lstep_len (l : List Int) (o : Option Int) : (lstep l o).length ≤ l.length + 1 := by
  cases o with
  | none => exact Nat.zero_le _
  | some b => show (l ++ [b]).length ≤ _; rw [List.length_append]; exact Nat.le_refl _
theorem lsteps_len : ∀ (os : List (Option Int)) (l : List Int), (os.foldl lstep l).length ≤ l.length + os.length
  | [], _ => Nat.le_refl _
  | o :: os, l => by
    have h1 := lsteps_len os (lstep l o)
    have h2 := lstep_len l o
    show (os.foldl lstep (lstep l o)).length ≤ l.length + (os.length + 1)
    omega
theorem ok_Device_log (T : Txt K mg c) : GM P w K mg base CX0 1 c.Device "log" (sp_Device_log c) := by
  obtain ⟨f, fd, F, gf, gi⟩ := T.f_Device_log
  have tc_Device := T.cl_Device; have tn_Device_pages := T.n_Device_pages; have tn_Device_page_writes := T.n_Device_page_writes; have tn_Device_durable_log := T.n_Device_durable_log; have tn_Device_log_steps := T.n_Device_log_steps; have tn_Device_done := T.n_Device_done; have tn_Device_most := T.n_Device_most
  refine ⟨f, fd, ["self"], F.ok sc_Device_log ?_ (fun cdv A outer s H vs Q E hr h => ?_), ⟨gf, gi, F.kp⟩, (F.binds (ps := ["self"]) fun _ _ _ _ _ _ us hl => match us, hl with | [_], _ => rfl)⟩
  · rintro vs H Q E ⟨_, _, _, rfl, _⟩
    rfl
  · obtain ⟨p, O0, d, rfl, hD, sm, k⟩ := h
    obtain ⟨O, dx, a1, a2, a3, a4, kvs, ws, eO, D, og⟩ := hD.opn
    have fr : ∀ {x}, H x = none → O x := fun h => by rw [eO]; exact .inr h
    have ho := D.o
    have hs := D.st
    refine ⟨_, (pss_cons (ps_set (i := 1) sc_Device_log.nd rfl (Or.inl rfl) (pe_callTy (r := rLstQ K) c_list (by rfl) T.z_list (by decide +kernel) (pa_cons (pe_fldK rfl (pv 0)) pa_nil)))
      (pss_cons (ps_for PassesOwn.never rfl (pi_listK rfl (pe_fldK rfl (pv 0))) (pg_name (i := 2) sc_Device_log.nd rfl (Or.inl rfl)) (pss_one (ps_if (pt_cmpR o_isN (pv 2) pe_non (nomark _)) (pss_one (ps_set (i := 1) sc_Device_log.nd rfl (Or.inl rfl) (pe_lst pa_nil))) (pss_one (ps_expr (pe_kBM rfl (pe_bm PySem.F.plainAttrs_list PySem.F.slot_list_append PySem.F.type_list_append mt_append (pv 1) (pa_cons (pv 2) pa_nil))))))))
      (pss_one (ps_ret (pv 1))))), ?_⟩
    walk_at "cx"
    walk_at "rd"
    refine x_lstL (SqL.of D.lg.1) fun b H1 hb k1 hb1 => ?_
    have ho1 := k1.get ho id
    have hs1 := k1.get hs id
    walk_at "rd"
    refine wfor Wk.list (fun i σ H' => ∃ b u, σ = [some (.ref p), some (.ref b), u] ∧ H' b = some (.lst (((d.steps.take i).foldl lstep d.log).map V.int)) ∧ H b = none ∧ Kp F0 H H')
      ⟨b, none, rfl, hb1, hb, k1⟩ (fun i σ H' ⟨_, _, _, _, _, kk⟩ => SqL.of (kk.get hs id)) ?_ ?_
    · rintro i x σ H2 ex ⟨b, u, rfl, hb2, hb0, kk⟩
      have e : ∃ o, d.steps[i]? = some o ∧ x = oV o := by
        rw [List.getElem?_map] at ex
        cases q : d.steps[i]? with
        | none => rw [q] at ex; cases ex
        | some z => rw [q] at ex; exact ⟨z, rfl, (Option.some.inj ex).symm⟩
      obtain ⟨o, eo, rfl⟩ := e
      have tk : (d.steps.take (i + 1)).foldl lstep d.log = lstep ((d.steps.take i).foldl lstep d.log) o := by rw [List.take_succ, eo, List.foldl_append]; rfl
      have ll := lsteps_len (d.steps.take i) d.log
      have l2 : (d.steps.take i).length ≤ d.steps.length := by rw [List.length_take]; omega
      have := sm.2.2.1
      cases o with
      | none =>
        walk_at "rd"
        show rIsNQ .non .non _ _
        walk_at "rd"
        refine x_newL fun b' H3 hb' k3 hb3 => ?_
        exact ⟨b', some .non, rfl, by rw [tk]; exact hb3, kk.free hb' id, kk.trans k3 fun _ z => z.elim⟩
      | some y =>
        walk_at "rd"
        show rIsNQ (.int y) .non _ _
        walk_at "rd"
        show rAppend (.ref b) [.int y] _ _
        refine x_app hb2 (by rw [List.length_map]; omega) fun H3 hb3 k3 => ?_
        exact ⟨b, some (.int y), rfl, by rw [tk, hb3]; show _ = some (HO.lst (((d.steps.take i).foldl lstep d.log ++ [y]).map V.int)); rw [List.map_append]; rfl, hb0, kk.trans k3 fun x z => .inr (by rw [z]; exact hb0)⟩
    · rintro σ H2 ⟨b, u, rfl, hb2, hb0, kk⟩
      rw [List.length_map, List.take_length] at hb2
      walk_at "rd"
      exact k b H2 hb0 kk hb2
/-- a new list of steps, a new log -/
theorem DevA.newL {O : Addr → Prop} {H1 H' : Hp} {p dx a1 a2 a3 a4 b3 b4 : Addr} {kvs : List (Key × V)} {ws : List V} {d : DevS} {lg : List Int} {sl : List (Option Int)} {n : Int} {mo : Option Int} (D : DevA c O H1 p dx a1 a2 a3 a4 kvs ws d)
    (h4 : H1 b4 = none) (k : Kp (F1 p) H1 H') (o : H' p = some (.ins c.Device dx (F_Device (.ref a1) (.ref a2) (.ref b3) (.ref b4) (.int n) (oV mo)))) (e3 : H' b3 = some (.lst (lg.map V.int))) (e4 : H' b4 = some (.lst (sl.map oV))) (n3 : ¬ DevG p a1 a2 b4 b3) (o3 : O b3) (o4 : O b4) :
    DevA c O H' p dx a1 a2 b3 b4 kvs ws { pages := d.pages, writes := d.writes, log := lg, steps := sl, done := n, most := mo } := by
  have nb := D.fresh h4
  have im : ∀ a ds, Im H1 O (DevG p a1 a2 a4) a ds → Im H' O (DevG p a1 a2 b4) a ds := fun a ds i => ⟨k.get i.1 fun z => i.2.2 (.inl z), i.2.1, by
    rintro (z | z | z | z)
    · exact i.2.2 (.inl z)
    · exact i.2.2 (.inr (.inl z))
    · exact i.2.2 (.inr (.inr (.inl z)))
    · exact ne_of_none i.1 h4 z⟩
  exact ⟨o, k.get D.pg D.np1.symm, Paired.mono (fun _ _ r => r.im im) D.pr, k.get D.wr D.np2.symm, Paired.mono (fun _ _ r => r.im k im) D.wp, ⟨e3, o3, n3⟩, e4, fun z => nb (.inr (.inr (.inl z.symm))), by
    rintro x (z | z | z | z)
    · exact D.ow _ (.inl z)
    · exact D.ow _ (.inr (.inl z))
    · exact D.ow _ (.inr (.inr (.inl z)))
    · rw [z]; exact o4⟩
def sp_Device_sync_log (c : Cl) : Sp := fun vs H Q E => ∃ p O d, vs = [.ref p] ∧ DevAt c H p O d ∧ Sml d ∧ spD c H p O (dSyncL d) (Q .non) E
theorem ok_Device_sync_log (T : Txt K mg c) : GM P w K mg base (L2.CX P w) 2 c.Device "sync_log" (sp_Device_sync_log c) := by
  obtain ⟨f, fd, F, gf, gi⟩ := T.f_Device_sync_log
  have tc_Device := T.cl_Device; have tn_Device_pages := T.n_Device_pages; have tn_Device_page_writes := T.n_Device_page_writes; have tn_Device_durable_log := T.n_Device_durable_log; have tn_Device_log_steps := T.n_Device_log_steps; have tn_Device_done := T.n_Device_done; have tn_Device_most := T.n_Device_most
  refine ⟨f, fd, ["self"], F.okX sc_Device_sync_log ?_ (fun cdv A outer s H vs Q E hr h => ?_), ⟨gf, gi, F.kp⟩, (F.binds (ps := ["self"]) fun _ _ _ _ _ _ us hl => match us, hl with | [_], _ => rfl)⟩
  · rintro vs H Q E ⟨_, _, _, rfl, _⟩
    rfl
  · obtain ⟨p, O0, d, rfl, hD, sm, k⟩ := h
    obtain ⟨O, dx, a1, a2, a3, a4, kvs, ws, eO, D, og⟩ := hD.opn
    have fr : ∀ {x}, H x = none → O x := fun h => by rw [eO]; exact .inr h
    have ho := D.o
    refine ⟨_, (pss_cons (ps_expr (pe_gm0 T.cl_Device (ok_Device_step T) (pv 0) (hr.mono (by decide)) (passE (E := E) rfl rfl rfl rfl)))
      (pss_cons (ps_fld (pv 0) (pe_gm0 T.cl_Device (ok_Device_log T) (pv 0) (hr.mono (by decide)) pass0S) rfl)
      (pss_one (ps_fld (pv 0) (pe_lst pa_nil) rfl)))), ?_⟩
    walk_at "cx"
    walk_at "rd"
    refine ⟨O, p, dx, a1, a2, a3, a4, kvs, ws, d, rfl, D, fun hc H1 D1 k1 => ?_, fun hc => k.no hc hD⟩
    have ho1 := D1.o
    walk_at "rd"
    refine ⟨p, _, _, rfl, D1.clo eO, sm, fun b H2 hb k2 hb2 => ?_⟩
    have D2 := D1.same k2
    have ho2 := D2.o
    have nbp : b ≠ p := fun z => D1.fresh hb (.inl z)
    walk_at "rd"
    intro H3 p3 k3
    have hb3 := k3.get hb2 nbp
    walk_at "rd"
    refine x_newL fun e H4 he k4 he4 => ?_
    have hb4 := k4.get hb3 id
    walk_at "rd"
    intro H5 p5 k5
    have nep : e ≠ p := fun z => by rw [z, p3] at he; cases he
    have nbe : b ≠ e := ne_of_none hb3 he
    have he2 : H2 e = none := k3.free he nep
    have k12 : Kp (F1 p) H H2 := k1.trans k2 fun _ z => z.elim
    have kk : Kp (F1 p) H2 H5 := (k3.trans k4 fun _ z => z.elim).trans k5 fun _ z => .inl z
    have q : DevA c O H5 p dx a1 a2 b e kvs ws { pages := d.pages, writes := d.writes, log := clog d, steps := [], done := d.done + 1, most := d.most } :=
      D2.newL (lg := clog d) (sl := []) he2 kk p5 (k5.get hb4 nbp) (k5.get he4 nep) (by
        rintro (z | z | z | z)
        · exact nbp z
        · exact D1.fresh hb (.inr (.inl z))
        · exact D1.fresh hb (.inr (.inr (.inl z)))
        · exact nbe z) (fr (k1.free hb nbp)) (fr (k12.free he2 nep))
    exact k.yes hc (q.clo eO) (Stp.nO (G := DevG p a1 a2 a4) ((k12.mono F1.g).trans kk fun _ z => .inl (.inl z)) og)
def sp_Device_durable_page (c : Cl) : Sp := fun vs H Q _ => ∃ p O d n, vs = [.ref p, .int n] ∧ DevAt c H p O d ∧ ∀ b H', H b = none → Kp F0 H H' → H' b = some (.lst ((dpg d n).map V.int)) → Q (.ref b) H'
theorem ok_Device_durable_page (T : Txt K mg c) : GM P w K mg base CX0 1 c.Device "durable_page" (sp_Device_durable_page c) := by
  obtain ⟨f, fd, F, gf, gi⟩ := T.f_Device_durable_page
  obtain ⟨_, mg_PAGE_SIZE⟩ := T.m_PAGE_SIZE
  have tc_Device := T.cl_Device; have tn_Device_pages := T.n_Device_pages; have tn_Device_page_writes := T.n_Device_page_writes; have tn_Device_durable_log := T.n_Device_durable_log; have tn_Device_log_steps := T.n_Device_log_steps; have tn_Device_done := T.n_Device_done; have tn_Device_most := T.n_Device_most
  refine ⟨f, fd, ["self", "number"], F.ok sc_Device_durable_page ?_ (fun cdv A outer s H vs Q E hr h => ?_), ⟨gf, gi, F.kp⟩, (F.binds (ps := ["self", "number"]) fun _ _ _ _ _ _ us hl => match us, hl with | [_, _], _ => rfl)⟩
  · rintro vs H Q E ⟨_, _, _, _, rfl, _⟩
    rfl
  · obtain ⟨p, O0, d, n, rfl, hD, k⟩ := h
    obtain ⟨O, dx, a1, a2, a3, a4, kvs, ws, eO, D, og⟩ := hD.opn
    have fr : ∀ {x}, H x = none → O x := fun h => by rw [eO]; exact .inr h
    have ho := D.o
    have hp := D.pg
    refine ⟨_, (pss_one (ps_ret (pe_callTy (r := rLstQ K) c_list (by rfl) T.z_list (by decide +kernel) (pa_cons (pe_dget2 (hu_of hr) (pe_fldK rfl (pv 0)) (pv 1) (pe_op op_rep (pe_lst (pa_cons pe_int pa_nil)) (pe_glob (v := .int 256) rfl mg_PAGE_SIZE ⟨_, rfl⟩)) ⟨rfl, rfl, rfl, rfl⟩) pa_nil)))), ?_⟩
    walk_at "cx"
    walk_at "rd"
    refine x_newL fun z1 H1 hz1 k1 hz11 => ?_
    walk_at "rd"
    refine x_rep hz11 (by decide) (by decide) fun z2 H2 hz2 k2 hz22 => ?_
    have D2 := (D.same k1).same k2
    have hp2 := D2.pg
    walk_at "rd"
    have ez : List.replicate (256 : Int).toNat (V.int 0) = zeros.map V.int := by unfold zeros; rw [List.map_replicate]; rfl
    rw [ez] at hz22
    have fin : ∀ {x : Addr} {ds : List Int}, H2 x = some (.lst (ds.map V.int)) → dpg d n = ds → rLstQ K [.ref x] H2 Q := fun {x ds} hx e => by
      refine x_lstL (SqL.of hx) fun b H3 hb k3 hb3 => ?_
      exact k b H3 (k1.free (k2.free hb id) id) ((k1.trans k2 fun _ z => z.elim).trans k3 fun _ z => z.elim) (by rw [e]; exact hb3)
    rcases get_pr RPg.key n D2.pr with ⟨e1, e2⟩ | ⟨v, ds, e1, e2, _, a, rfl, i⟩
    · rw [e1]
      exact fin hz22 (by unfold dpg; rw [e2]; rfl)
    · rw [e1]
      exact fin i.1 (by unfold dpg; rw [e2]; rfl)
def sp_Device_page (c : Cl) : Sp := fun vs H Q _ => ∃ p O d n, vs = [.ref p, .int n] ∧ DevAt c H p O d ∧ ∀ b H', H b = none → Kp F0 H H' → H' b = some (.lst ((cpg d n).map V.int)) → Q (.ref b) H'
theorem prev {α β : Type} {R : α → β → Prop} : ∀ {l : List α} {m : List β}, Paired R l m → Paired R l.reverse m.reverse
  | _, _, .nil => .nil
  | _, _, .cons h t => by
    rw [List.reverse_cons, List.reverse_cons]
    exact (prev t).snoc h
theorem ok_Device_page (T : Txt K mg c) : GM P w K mg base CX0 2 c.Device "page" (sp_Device_page c) := by
  obtain ⟨f, fd, F, gf, gi⟩ := T.f_Device_page
  have tc_Device := T.cl_Device; have tn_Device_pages := T.n_Device_pages; have tn_Device_page_writes := T.n_Device_page_writes; have tn_Device_durable_log := T.n_Device_durable_log; have tn_Device_log_steps := T.n_Device_log_steps; have tn_Device_done := T.n_Device_done; have tn_Device_most := T.n_Device_most
  refine ⟨f, fd, ["self", "number"], F.ok sc_Device_page ?_ (fun cdv A outer s H vs Q E hr h => ?_), ⟨gf, gi, F.kp⟩, (F.binds (ps := ["self", "number"]) fun _ _ _ _ _ _ us hl => match us, hl with | [_, _], _ => rfl)⟩
  · rintro vs H Q E ⟨_, _, _, _, rfl, _⟩
    rfl
  · obtain ⟨p, O0, d, n, rfl, hD, k⟩ := h
    obtain ⟨O, dx, a1, a2, a3, a4, kvs, ws, eO, D, og⟩ := hD.opn
    have fr : ∀ {x}, H x = none → O x := fun h => by rw [eO]; exact .inr h
    have ho := D.o
    have hw := D.wr
    refine ⟨_, (pss_cons (ps_for PassesOwn.never rfl (pi_revK rfl (pi_reversed (by rfl) T.z_reversed (pa_cons (pe_fldK rfl (pv 0)) pa_nil))) (pg_kT rfl (pg_tup (n := 2) rfl (pgs_cons (pg_name (i := 2) sc_Device_page.nd rfl (Or.inl rfl)) (pgs_cons (pg_name (i := 3) sc_Device_page.nd rfl (Or.inl rfl)) pgs_nil)))) (pss_one (ps_if (pt_cmpR op_eq (pv 2) (pv 1) (nomark _)) (pss_one (ps_ret (pe_callTy (r := rLstQ K) c_list (by rfl) T.z_list (by decide +kernel) (pa_cons (pv 3) pa_nil)))) pss_nil)))
      (pss_one (ps_ret (pe_gm T.cl_Device (ok_Device_durable_page T) (pv 0) (hr.mono (by decide)) pass0S (pa_cons (pv 1) pa_nil))))), ?_⟩
    walk_at "cx"
    walk_at "rd"
    refine wfor Wk.rev (fun i σ H' => ∃ u v, σ = [some (.ref p), some (.int n), u, v] ∧ H = H' ∧ (d.writes.reverse.take i).find? (fun q => decide (q.1 = n)) = none)
      ⟨none, none, rfl, rfl, rfl⟩ (fun i σ H' ⟨_, _, _, e, _⟩ => by rw [← e]; exact SqL.of hw) ?_ ?_
    · rintro i x σ H2 ex ⟨u, v, rfl, rfl, hf⟩
      obtain ⟨q, eq, t, a, rfl, ht, hi⟩ := pget (prev D.wp) ex
      walk_at "rd"
      have tk : d.writes.reverse.take (i + 1) = d.writes.reverse.take i ++ [q] := by rw [List.take_succ, eq]; rfl
      refine ite_dec (fun e => ?_) fun e => ?_
      · walk_at "rd"
        refine x_lstL (SqL.of hi.1) fun b H3 hb k3 hb3 => ?_
        refine k b H3 hb k3 ?_
        have lt : i < d.writes.reverse.length := (List.getElem?_eq_some_iff.mp eq).1
        have e2 : d.writes.reverse.find? (fun q => decide (q.1 = n)) = some q := by
          rw [← List.take_append_drop (i + 1) d.writes.reverse, tk, List.find?_append, List.find?_append, hf]
          rw [List.find?_cons_of_pos (by exact decide_eq_true e)]; rfl
        unfold cpg
        rw [e2]
        exact hb3
      · refine ⟨_, _, rfl, rfl, ?_⟩
        rw [tk, List.find?_append, hf, List.find?_cons_of_neg (by simpa using e)]; rfl
    · rintro σ H2 ⟨u, v, rfl, rfl, hf⟩
      rw [List.length_reverse, show ws.length = d.writes.reverse.length by rw [List.length_reverse]; exact D.wp.length, List.take_length] at hf
      walk_at "rd"
      refine ⟨p, _, d, n, rfl, hD, fun b H3 hb k3 hb3 => k b H3 hb k3 ?_⟩
      unfold cpg
      rw [hf]
      exact hb3
def sp_Device_limit (c : Cl) : Sp := fun vs H Q _ => ∃ p O d s, vs = [.ref p, oV s] ∧ DevAt c H p O d ∧ ∀ H' O', DevAt c H' p O' (dLimit s d) → Stp O O' H H' → Q .non H'
theorem ok_Device_limit (T : Txt K mg c) : GM P w K mg base CX0 1 c.Device "limit" (sp_Device_limit c) := by
  obtain ⟨f, fd, F, gf, gi⟩ := T.f_Device_limit
  have tc_Device := T.cl_Device; have tn_Device_pages := T.n_Device_pages; have tn_Device_page_writes := T.n_Device_page_writes; have tn_Device_durable_log := T.n_Device_durable_log; have tn_Device_log_steps := T.n_Device_log_steps; have tn_Device_done := T.n_Device_done; have tn_Device_most := T.n_Device_most
  refine ⟨f, fd, ["self", "steps"], F.ok sc_Device_limit ?_ (fun cdv A outer s H vs Q E hr h => ?_), ⟨gf, gi, F.kp⟩, (F.binds (ps := ["self", "steps"]) fun _ _ _ _ _ _ us hl => match us, hl with | [_, _], _ => rfl)⟩
  · rintro vs H Q E ⟨_, _, _, _, rfl, _⟩
    rfl
  · obtain ⟨p, O0, d, s', rfl, hD, k⟩ := h
    obtain ⟨O, dx, a1, a2, a3, a4, kvs, ws, eO, D, og⟩ := hD.opn
    have fr : ∀ {x}, H x = none → O x := fun h => by rw [eO]; exact .inr h
    have ho := D.o
    refine ⟨_, (pss_one (ps_if (pt_cmpR o_isN (pv 1) pe_non (nomark _)) (pss_one (ps_fld (pv 0) pe_non rfl)) (pss_one (ps_fld (pv 0) (pe_op op_add (pe_fldK rfl (pv 0)) (pv 1)) rfl)))), ?_⟩
    walk_at "cx"
    cases s' with
    | none =>
      walk_at "rd"
      show rIsNQ .non .non _ _
      walk_at "rd"
      intro H1 p1 k1
      exact k H1 _ ((D.mk' (n := d.done) (m := none) k1 p1).clo eO) (Stp.nO (k1.mono F1.g) og)
    | some m =>
      walk_at "rd"
      show rIsNQ (.int m) .non _ _
      walk_at "rd"
      show rI0 (fun i j => V.int (i + j)) (.int d.done) (.int m) _ _
      walk_at "rd"
      intro H1 p1 k1
      exact k H1 _ ((D.mk' (n := d.done) (m := some (d.done + m)) k1 p1).clo eO) (Stp.nO (k1.mono F1.g) og)
def sp_Device_steps (c : Cl) : Sp := fun vs H Q _ => ∃ p O d, vs = [.ref p] ∧ DevAt c H p O d ∧ Q (.int d.done) H
theorem ok_Device_steps (T : Txt K mg c) : GM P w K mg base CX0 1 c.Device "steps" (sp_Device_steps c) := by
  obtain ⟨f, fd, F, gf, gi⟩ := T.f_Device_steps
  have tc_Device := T.cl_Device; have tn_Device_pages := T.n_Device_pages; have tn_Device_page_writes := T.n_Device_page_writes; have tn_Device_durable_log := T.n_Device_durable_log; have tn_Device_log_steps := T.n_Device_log_steps; have tn_Device_done := T.n_Device_done; have tn_Device_most := T.n_Device_most
  refine ⟨f, fd, ["self"], F.ok sc_Device_steps ?_ (fun cdv A outer s H vs Q E hr h => ?_), ⟨gf, gi, F.kp⟩, (F.binds (ps := ["self"]) fun _ _ _ _ _ _ us hl => match us, hl with | [_], _ => rfl)⟩
  · rintro vs H Q E ⟨_, _, _, rfl, _⟩
    rfl
  · obtain ⟨p, O0, d, rfl, hD, k⟩ := h
    obtain ⟨O, dx, a1, a2, a3, a4, kvs, ws, eO, D, og⟩ := hD.opn
    have fr : ∀ {x}, H x = none → O x := fun h => by rw [eO]; exact .inr h
    have ho := D.o
    refine ⟨_, (pss_one (ps_ret (pe_fldK rfl (pv 0)))), ?_⟩
    walk_at "cx"
    walk_at "rd"
    exact k
def sp_Device_pending (c : Cl) : Sp := fun vs H Q _ => ∃ p O d, vs = [.ref p] ∧ DevAt c H p O d ∧ ∀ b H', Kp F0 H H' → H' b = some (.tup [.int d.writes.length, .int d.steps.length]) → Q (.ref b) H'
theorem ok_Device_pending (T : Txt K mg c) : GM P w K mg base CX0 1 c.Device "pending" (sp_Device_pending c) := by
  obtain ⟨f, fd, F, gf, gi⟩ := T.f_Device_pending
  have tc_Device := T.cl_Device; have tn_Device_pages := T.n_Device_pages; have tn_Device_page_writes := T.n_Device_page_writes; have tn_Device_durable_log := T.n_Device_durable_log; have tn_Device_log_steps := T.n_Device_log_steps; have tn_Device_done := T.n_Device_done; have tn_Device_most := T.n_Device_most
  refine ⟨f, fd, ["self"], F.ok sc_Device_pending ?_ (fun cdv A outer s H vs Q E hr h => ?_), ⟨gf, gi, F.kp⟩, (F.binds (ps := ["self"]) fun _ _ _ _ _ _ us hl => match us, hl with | [_], _ => rfl)⟩
  · rintro vs H Q E ⟨_, _, _, rfl, _⟩
    rfl
  · obtain ⟨p, O0, d, rfl, hD, k⟩ := h
    obtain ⟨O, dx, a1, a2, a3, a4, kvs, ws, eO, D, og⟩ := hD.opn
    have fr : ∀ {x}, H x = none → O x := fun h => by rw [eO]; exact .inr h
    have ho := D.o
    have hw := D.wr
    have hs := D.st
    refine ⟨_, (pss_one (ps_ret (pe_tup (pa_cons (pe_callB (r := rLenQ K) c_len (by rfl) T.z_len PySem.boot_len (pa_cons (pe_fldK rfl (pv 0)) pa_nil)) (pa_cons (pe_callB (r := rLenQ K) c_len (by rfl) T.z_len PySem.boot_len (pa_cons (pe_fldK rfl (pv 0)) pa_nil)) pa_nil))))), ?_⟩
    walk_at "cx"
    walk_at "rd"
    rw [D.wp.length, List.length_map]
    refine x_newT fun b H1 hb k1 hb1 => ?_
    exact k b H1 k1 hb1
def sp_Device_crash (c : Cl) (K : PySem.W.Frag) : Sp := fun vs H Q _ => ∃ p O d l fs n, vs = [.ref p, .ref l, .int n] ∧ 0 ≤ n ∧ DevAt c H p O d ∧ SqL K H l (fs.map V.int) ∧ ¬ O l ∧ Sml d ∧ ∀ H' O', DevAt c H' p O' (dCrash fs n.toNat d) → Stp O O' H H' → Q .non H'
theorem cut_take {ss : List (Option Int)} {j : Int} (h0 : 0 ≤ j) : cutV (ss.map oV) none (some j) = (ss.take j.toNat).map oV := by
  obtain ⟨k, rfl⟩ := Int.eq_ofNat_of_zero_le h0
  unfold cutV
  rw [HT.sIx_none, HT.sIx_nat]
  simp only [List.drop_zero, Nat.sub_zero, List.length_map, List.map_take, Int.toNat_natCast]
  by_cases q : k ≤ ss.length
  · rw [show min k ss.length = k by omega]
  · rw [show min k ss.length = ss.length by omega, List.take_of_length_le (by simp), List.take_of_length_le (by simp; omega)]
theorem dFates_len : ∀ (l : List ((Int × List Int) × Int)) (pages : List (Int × List Int)), (l.foldl dFate pages).length ≤ pages.length + l.length
  | [], _ => Nat.le_refl _
  | q :: l, pages => by
    have h1 := dFates_len l (dFate pages q)
    have h2 : (dFate pages q).length ≤ pages.length + 1 := by
      unfold dFate
      split
      · exact aput_len _ _ _
      · split
        · exact aput_len _ _ _
        · exact Nat.le_succ _
    show (l.foldl dFate (dFate pages q)).length ≤ pages.length + (l.length + 1)
    omega
theorem cut_half_to (a : List Int) : cutV (a.map V.int) none (some 128) = (a.take 128).map V.int := by
  unfold cutV
  rw [HT.sIx_none, show (128 : Int) = ((128 : Nat) : Int) from rfl, HT.sIx_nat]
  simp only [List.drop_zero, Nat.sub_zero, List.length_map, List.map_take]
  by_cases q : 128 ≤ a.length
  · rw [show min 128 a.length = 128 by omega]
  · rw [show min 128 a.length = a.length by omega, List.take_of_length_le (by simp), List.take_of_length_le (by simp; omega)]
theorem cut_half_from (a : List Int) : cutV (a.map V.int) (some 128) none = (a.drop 128).map V.int := by
  unfold cutV
  rw [HT.sIx_none, show (128 : Int) = ((128 : Nat) : Int) from rfl, HT.sIx_nat]
  simp only [List.length_map, List.map_drop]
  by_cases q : 128 ≤ a.length
  · rw [show min 128 a.length = 128 by omega, List.take_of_length_le (by simp)]
  · rw [List.drop_eq_nil_of_le (by simp; omega), List.drop_eq_nil_of_le (by simp; omega)]; simp
/-- a page put into the dict -/
theorem DevA.put {O : Addr → Prop} {H H' : Hp} {p dx a1 a2 a3 a4 l : Addr} {kvs : List (Key × V)} {ws : List V} {d : DevS} {n : Int} {ds : List Int} (D : DevA c O H p dx a1 a2 a3 a4 kvs ws d) (i : Im H O (DevG p a1 a2 a4) l ds) (k3 : Kp (F1 a1) H H') (h : H' a1 = some (.dK (putK kvs (.inl n) (.ref l)))) :
    DevA c O H' p dx a1 a2 a3 a4 (putK kvs (.inl n) (.ref l)) ws { d with pages := aput d.pages n ds } := by
  have sub : ∀ x, F1 a1 x → DevG p a1 a2 a4 x := fun x z => .inr (.inl z)
  exact ⟨k3.get D.o D.np1, h, put_pr RPg.key ⟨rfl, l, rfl, i.kp k3 sub⟩ (Paired.mono (fun _ _ r => r.kp k3 sub) D.pr), k3.get D.wr D.n12.symm, Paired.mono (fun _ _ r => r.kp k3 sub) D.wp, D.lg.kp k3 sub, k3.get D.st D.n14.symm, D.ne, D.ow⟩
theorem ok_Device_crash (T : Txt K mg c) : GM P w K mg base CX0 2 c.Device "crash" (sp_Device_crash c K) := by
  obtain ⟨f, fd, F, gf, gi⟩ := T.f_Device_crash
  obtain ⟨_, mg_HALF⟩ := T.m_HALF
  have tc_Device := T.cl_Device; have tn_Device_pages := T.n_Device_pages; have tn_Device_page_writes := T.n_Device_page_writes; have tn_Device_durable_log := T.n_Device_durable_log; have tn_Device_log_steps := T.n_Device_log_steps; have tn_Device_done := T.n_Device_done; have tn_Device_most := T.n_Device_most
  refine ⟨f, fd, ["self", "fates", "kept"], F.ok sc_Device_crash ?_ (fun cdv A outer s H vs Q E hr h => ?_), ⟨gf, gi, F.kp⟩, (F.binds (ps := ["self", "fates", "kept"]) fun _ _ _ _ _ _ us hl => match us, hl with | [_, _, _], _ => rfl)⟩
  · rintro vs H Q E ⟨_, _, _, _, _, _, rfl, _⟩
    rfl
  · obtain ⟨p, O0, d, l, fs, n, rfl, hn, hD, hl, nl, sm, k⟩ := h
    obtain ⟨O, dx, a1, a2, a3, a4, kvs, ws, eO, D, og⟩ := hD.opn
    have fr : ∀ {x}, H x = none → O x := fun h => by rw [eO]; exact .inr h
    have ho := D.o
    have hw := D.wr
    have lw : ws.length = d.writes.length := D.wp.length
    have := sm.1
    have := sm.2.1
    refine ⟨_, (pss_cons (ps_for PassesOwn.never rfl (pi_range1 (by rfl) T.z_range (pa_cons (pe_callB (c_min2 rfl) (by rfl) T.z_min (by decide +kernel) (pa_cons (pe_callB (r := rLenQ K) c_len (by rfl) T.z_len PySem.boot_len (pa_cons (pv 1) pa_nil)) (pa_cons (pe_callB (r := rLenQ K) c_len (by rfl) T.z_len PySem.boot_len (pa_cons (pe_fldK rfl (pv 0)) pa_nil)) pa_nil))) pa_nil)) (pg_name (i := 3) sc_Device_crash.nd rfl (Or.inl rfl)) (pss_cons (ps_asg (pe_ix (r := rIxL K) ix_list (pe_fldK rfl (pv 0)) (pv 3) (fun _ _ => rfl)) (pg_kT rfl (pg_tup (n := 2) rfl (pgs_cons (pg_name (i := 4) sc_Device_crash.nd rfl (Or.inl rfl)) (pgs_cons (pg_name (i := 5) sc_Device_crash.nd rfl (Or.inl rfl)) pgs_nil)))))
      (pss_one (ps_if (pt_cmpR op_eq (pe_ix (r := rIxL K) ix_list (pv 1) (pv 3) (fun _ _ => rfl)) pe_int (nomark _)) (pss_one (ps_dput (hu_of hr) (pe_fldK rfl (pv 0)) (pv 4) (pv 5) rfl)) (pss_one (ps_if (pt_cmpR op_eq (pe_ix (r := rIxL K) ix_list (pv 1) (pv 3) (fun _ _ => rfl)) pe_int (nomark _)) (pss_one (ps_dput (hu_of hr) (pe_fldK rfl (pv 0)) (pv 4) (pe_op op_cat (pe_slice (r := rSlL K) sl_list (pv 5) po_none (po_some (pe_glob (v := .int 128) rfl mg_HALF ⟨_, rfl⟩))) (pe_slice (r := rSlL K) sl_list (pe_gm T.cl_Device (ok_Device_durable_page T) (pv 0) (hr.mono (by decide)) pass0S (pa_cons (pv 4) pa_nil)) (po_some (pe_glob (v := .int 128) rfl mg_HALF ⟨_, rfl⟩)) po_none)) rfl)) pss_nil))))))
      (pss_cons (ps_fld (pv 0) (pe_lst pa_nil) rfl)
      (pss_cons (ps_fld (pv 0) (pe_slice (r := rSlL K) sl_list (pe_fldK rfl (pv 0)) po_none (po_some (pv 2))) rfl)
      (pss_cons (ps_fld (pv 0) (pe_gm0 T.cl_Device (ok_Device_log T) (pv 0) (hr.mono (by decide)) pass0S) rfl)
      (pss_cons (ps_fld (pv 0) (pe_lst pa_nil) rfl)
      (pss_one (ps_fld (pv 0) pe_non rfl))))))), ?_⟩
    walk_at "cx"
    walk_at "rd"
    rw [lw, List.length_map]
    walk_at "rd"
    refine wfor Wk.rng (fun i σ H' => ∃ kvs' u v w, σ = [some (.ref p), some (.ref l), some (.int n), u, v, w] ∧ DevA c O H' p dx a1 a2 a3 a4 kvs' ws { d with pages := ((d.writes.zip fs).take i).foldl dFate d.pages } ∧ Kp (DevG p a1 a2 a4) H H')
      ⟨kvs, none, none, none, rfl, D, Kp.refl _⟩ (fun _ _ _ _ => trivial) ?_ ?_
    · rintro i x σ H2 ex ⟨kvs', u, v, w, rfl, D2, kk⟩
      obtain ⟨hi, rfl⟩ := rgl_at ex
      have i1 : i < fs.length := by omega
      have i2 : i < d.writes.length := by omega
      have ho2 := D2.o
      have hw2 := D2.wr
      have hl2 := kk.sqL hl fun z => nl (og _ z)
      have hwi : ws[i]? = some ws[i] := List.getElem?_eq_getElem (by omega)
      obtain ⟨q, eq, t, a, ew, ht, hi2⟩ := pget D2.wp hwi
      have eq' : d.writes[i]? = some q := eq
      have eqg : d.writes[i] = q := (List.getElem?_eq_some_iff.mp eq').2
      have hfi := at_of_lt i1
      have gfi : fs.getD i 0 = fs[i] := by rw [List.getD_eq_getElem?_getD, List.getElem?_eq_getElem i1]; rfl
      have tk : ((d.writes.zip fs).take (i + 1)).foldl dFate d.pages = dFate (((d.writes.zip fs).take i).foldl dFate d.pages) (q, fs.getD i 0) := by
        have z : (d.writes.zip fs)[i]? = some (q, fs.getD i 0) := by
          rw [List.getElem?_zip_eq_some]; exact ⟨eq', by rw [gfi]; exact List.getElem?_eq_getElem i1⟩
        rw [List.take_succ, z, List.foldl_append]; rfl
      have pl := dFates_len ((d.writes.zip fs).take i) d.pages
      have pl2 : ((d.writes.zip fs).take i).length ≤ d.writes.length := by rw [List.length_take, List.length_zip]; omega
      have pl3 : kvs'.length = (((d.writes.zip fs).take i).foldl dFate d.pages).length := D2.pr.length
      walk_at "rd"
      refine x_ixL (SqL.of hw2) (atI_at i (by omega) hwi) ?_
      rw [ew]
      walk_at "rd"
      refine x_ixL hl2 (atI_at i (by omega) hfi) ?_
      walk_at "rd"
      have hp2 := D2.pg
      have n1 : ∀ {z : Int}, fs.getD i 0 = z → z ≠ 1 → z ≠ 2 → dFate (((d.writes.zip fs).take i).foldl dFate d.pages) (q, fs.getD i 0) = ((d.writes.zip fs).take i).foldl dFate d.pages := fun e h1 h2 => by
        unfold dFate; rw [if_neg (by rw [e]; exact h1), if_neg (by rw [e]; exact h2)]
      refine ite_dec (fun e => ?_) fun e => ?_
      · walk_at "rd"
        refine x_dpI hp2 (by omega) fun H3 hp3 k3 => ?_
        refine ⟨putK kvs' (.inl q.1) (.ref a), _, _, _, rfl, ?_, kk.trans k3 fun x z => .inl (.inr (.inl z))⟩
        rw [tk, show dFate (((d.writes.zip fs).take i).foldl dFate d.pages) (q, fs.getD i 0) = aput (((d.writes.zip fs).take i).foldl dFate d.pages) q.1 q.2 by unfold dFate; rw [if_pos e]]
        exact D2.put hi2 k3 hp3
      · walk_at "rd"
        refine x_ixL hl2 (atI_at i (by omega) hfi) ?_
        walk_at "rd"
        refine ite_dec (fun e2 => ?_) fun e2 => ?_
        · walk_at "rd"
          refine x_slL (SqL.of hi2.1) fun s1 H3 hs1 k3 hs13 => ?_
          rw [cut_half_to] at hs13
          have D3 := D2.same k3
          have ho3 := D3.o
          walk_at "rd"
          refine ⟨p, _, _, q.1, rfl, D3.clo eO, fun s2 H4 hs2 k4 hs24 => ?_⟩
          walk_at "rd"
          refine x_slL (SqL.of hs24) fun s3 H5 hs3 k5 hs35 => ?_
          rw [cut_half_from] at hs35
          have hs15 := k5.get (k4.get hs13 id) id
          walk_at "rd"
          refine x_catL hs15 hs35 (by
            rw [List.length_map, List.length_map, List.length_take, List.length_drop, sizeLine_eq]
            have : (dpg { d with pages := ((d.writes.zip fs).take i).foldl dFate d.pages } q.1).length ≤ 256 := aget_sz (dFates_sz sm.2.2.2.1 fun q hq => sm.2.2.2.2 q.1 (List.of_mem_zip (List.mem_of_mem_take hq)).1)
            have : q.2.length ≤ 256 := sm.2.2.2.2 q (List.mem_of_getElem? eq')
            omega) fun s4 H6 hs4 k6 hs46 => ?_
          rw [← List.map_append] at hs46
          have D6 := ((D3.same k4).same k5).same k6
          have ho6 := D6.o
          have hp6 := D6.pg
          walk_at "rd"
          refine x_dpI hp6 (by omega) fun H7 hp7 k7 => ?_
          have kz : Kp F0 H2 H6 := ((k3.trans k4 fun _ z => z.elim).trans k5 fun _ z => z.elim).trans k6 fun _ z => z.elim
          refine ⟨putK kvs' (.inl q.1) (.ref s4), _, _, _, rfl, ?_, (kk.trans kz fun _ z => z.elim).trans k7 fun x z => .inl (.inr (.inl z))⟩
          rw [tk, show dFate (((d.writes.zip fs).take i).foldl dFate d.pages) (q, fs.getD i 0) = aput (((d.writes.zip fs).take i).foldl dFate d.pages) q.1 (q.2.take 128 ++ ((aget (((d.writes.zip fs).take i).foldl dFate d.pages) q.1).getD zeros).drop 128) by unfold dFate; rw [if_neg e, if_pos e2]]
          exact D6.put ⟨hs46, fr (kk.free (k3.free (k4.free (k5.free hs4 id) id) id) ((((D3.same k4).same k5)).fresh hs4)), (((D3.same k4).same k5)).fresh hs4⟩ k7 hp7
        · refine ⟨kvs', _, _, _, rfl, ?_, kk⟩
          rw [tk, n1 rfl e e2]
          exact D2
    · rintro σ H2 ⟨kvs', u, v, w, rfl, D2, kk⟩
      have et : (d.writes.zip fs).take (rgl 0 (min (fs.length : Int) (d.writes.length : Int)).toNat).length = d.writes.zip fs := List.take_of_length_le (by rw [rgl_len, List.length_zip]; omega)
      rw [et] at D2
      have ho2 := D2.o
      walk_at "rd"
      refine x_newL fun b H3 hb k3 hb3 => ?_
      have D3 := D2.same k3
      have ho3 := D3.o
      have nb := D2.fresh hb
      have nbp : b ≠ p := fun z => nb (.inl z)
      have nb1 : b ≠ a1 := fun z => nb (.inr (.inl z))
      have nb4 : b ≠ a4 := fun z => nb (.inr (.inr (.inr z)))
      walk_at "rd"
      intro H4 p4 k4
      have D4 : DevA c O H4 p dx a1 b a3 a4 kvs' [] { d with pages := (d.writes.zip fs).foldl dFate d.pages, writes := [] } := by
        have im : ∀ a ds, Im H2 O (DevG p a1 a2 a4) a ds → Im H4 O (DevG p a1 b a4) a ds := fun a ds i => ⟨k4.get (k3.get i.1 id) fun z => i.2.2 (.inl z), i.2.1, by
          rintro (z | z | z | z)
          · exact i.2.2 (.inl z)
          · exact i.2.2 (.inr (.inl z))
          · exact ne_of_none i.1 hb z
          · exact i.2.2 (.inr (.inr (.inr z)))⟩
        exact ⟨p4, k4.get D3.pg D3.np1.symm, Paired.mono (fun _ _ r => r.im im) D2.pr, k4.get hb3 nbp, .nil, im _ _ D2.lg, k4.get D3.st D3.np4.symm, nb4, by
          rintro x (z | z | z | z)
          · exact D.ow _ (.inl z)
          · exact D.ow _ (.inr (.inl z))
          · rw [z]; exact fr (kk.free hb nb)
          · exact D.ow _ (.inr (.inr (.inr z)))⟩
      have ho4 := D4.o
      have hs4 := D4.st
      walk_at "rd"
      refine x_slL (SqL.of hs4) fun s1 H5 hs1 k5 hs15 => ?_
      rw [cut_take hn] at hs15
      have D5 := D4.same k5
      have ho5 := D5.o
      have ns1p : s1 ≠ p := fun z => D4.fresh hs1 (.inl z)
      walk_at "rd"
      intro H6 p6 k6
      have k46 : Kp (F1 p) H4 H6 := (k5.mono fun _ z => z.elim).trans k6 fun _ z => .inl z
      have ns1 := D4.fresh hs1
      have k24 : Kp (DevG p a1 a2 a4) H2 H4 := (k3.mono fun _ z => z.elim).trans k4 fun _ z => .inl (.inl z)
      have f4 : ∀ x, H4 x = none → H x = none := fun x hx => by
        by_cases q : DevG p a1 a2 a4 x
        · obtain ⟨o, ho⟩ := D2.trk q
          by_cases e : x = p
          · rw [e, p4] at hx; cases hx
          · rw [k4.get (k3.get ho id) e] at hx; cases hx
        · exact kk.free (k24.free hx q) q
      have fs1 := f4 _ hs1
      have n3 : ¬ DevG p a1 b s1 a3 := by
        rintro (z | z | z | z)
        · exact D4.lg.2.2 (.inl z)
        · exact D4.lg.2.2 (.inr (.inl z))
        · exact D4.lg.2.2 (.inr (.inr (.inl z)))
        · exact ne_of_none D4.lg.1 hs1 z
      have D6 : DevA c O H6 p dx a1 b a3 s1 kvs' [] { pages := (d.writes.zip fs).foldl dFate d.pages, writes := [], log := d.log, steps := d.steps.take n.toNat, done := d.done, most := d.most } :=
        D4.newL (lg := d.log) (sl := d.steps.take n.toNat) hs1 k46 p6 (k46.get D4.lg.1 fun z => D4.lg.2.2 (.inl z)) (k6.get hs15 ns1p) n3 D4.lg.2.1 (fr fs1)
      have ho6 := D6.o
      walk_at "rd"
      refine ⟨p, _, _, rfl, D6.clo eO, ?_, fun g H7 hg k7 hg7 => ?_⟩
      · refine ⟨Nat.zero_le _, ?_, ?_, dFates_sz sm.2.2.2.1 fun q hq => sm.2.2.2.2 q.1 (List.of_mem_zip hq).1, fun q hq => by cases hq⟩
        · have h1 := dFates_len (d.writes.zip fs) d.pages
          have h2 : (d.writes.zip fs).length ≤ d.writes.length := by rw [List.length_zip]; omega
          show ((d.writes.zip fs).foldl dFate d.pages).length + 0 ≤ 2000000
          have := sm.2.1
          omega
        · have h1 := sm.2.2.1
          show d.log.length + (d.steps.take n.toNat).length ≤ 8000000
          rw [List.length_take]; omega
      have D7 := D6.same k7
      have ho7 := D7.o
      have ngp : g ≠ p := fun z => D6.fresh hg (.inl z)
      walk_at "rd"
      intro H8 p8 k8
      have hg8 := k8.get hg7 ngp
      walk_at "rd"
      refine x_newL fun e H9 he k9 he9 => ?_
      have nep : e ≠ p := fun z => by rw [z, p8] at he; cases he
      have nge : g ≠ e := ne_of_none hg8 he
      walk_at "rd"
      intro H10 p10 k10
      walk_at "rd"
      intro H11 p11 k11
      have kl : Kp (F1 p) H6 H11 := ((((k7.mono fun _ z => z.elim).trans k8 fun _ z => .inl z).trans k9 fun _ z => z.elim).trans k10 fun _ z => .inl z).trans k11 fun _ z => .inl z
      have he6 : H6 e = none := k7.free (k8.free he nep) id
      have D11 : DevA c O H11 p dx a1 b g e kvs' [] (dCrash fs n.toNat d) := D6.newL (lg := (d.steps.take n.toNat).foldl lstep d.log) (sl := []) (n := d.done) (mo := none) he6 kl p11 (k11.get (k10.get (k9.get hg8 id) ngp) ngp) (k11.get (k10.get he9 nep) nep) (by
        rintro (z | z | z | z)
        · exact ngp z
        · exact D6.fresh hg (.inr (.inl z))
        · exact D6.fresh hg (.inr (.inr (.inl z)))
        · exact nge z) (fr (f4 _ (k46.free hg ngp))) (fr (f4 _ (k46.free he6 nep)))
      have k26 : Kp (DevG p a1 a2 a4) H2 H6 := k24.trans k46 fun _ z => .inl (.inl z)
      exact k H11 _ (D11.clo eO) (Stp.nO (G := DevG p a1 a2 a4) (kk.trans (k26.trans kl fun _ z => .inl (.inl z)) fun _ z => .inl z) og)
end
/-! ### the law's own model of a device -/
def mo : Option Int → Int
  | none => -1
  | some m => m
def mV : Option Int → V
  | none => .int (-1)
  | some b => .int b
structure ModA (O : Addr → Prop) (H : Hp) (m b1 b2 b3 b4 : Addr) (kvs : List (Key × V)) (ws : List V) (d : DevS) : Prop where
  o : H m = some (.dK (RD_model (.ref b1) (.ref b2) (.ref b3) (.ref b4) (.int d.done) (.int (mo d.most))))
  pg : H b1 = some (.dK kvs)
  pr : Paired (RPg H O (DevG m b1 b2 b4)) kvs d.pages
  wr : H b2 = some (.lst ws)
  wp : Paired (RWr H O (DevG m b1 b2 b4)) ws d.writes
  lg : Im H O (DevG m b1 b2 b4) b3 d.log
  st : H b4 = some (.lst (d.steps.map mV))
  ne : b2 ≠ b4
  n1 : m ≠ b1
  ow : ∀ b, DevG m b1 b2 b4 b → O b
def ModAt (H : Hp) (m : Addr) (O : Addr → Prop) (d : DevS) : Prop := (∃ b1 b2 b3 b4 kvs ws, ModA O H m b1 b2 b3 b4 kvs ws d) ∧ (∀ b, O b → ∃ o, H b = some o)
section
variable {F O O' : Addr → Prop} {H H' : Hp} {m b1 b2 b3 b4 b : Addr} {kvs : List (Key × V)} {ws : List V} {d : DevS}
theorem ModA.n12 (h : ModA O H m b1 b2 b3 b4 kvs ws d) : b1 ≠ b2 := ne_of h.pg h.wr (by intro z; cases z)
theorem ModA.n14 (h : ModA O H m b1 b2 b3 b4 kvs ws d) : b1 ≠ b4 := ne_of h.pg h.st (by intro z; cases z)
theorem ModA.nm2 (h : ModA O H m b1 b2 b3 b4 kvs ws d) : m ≠ b2 := ne_of h.o h.wr (by intro z; cases z)
theorem ModA.nm4 (h : ModA O H m b1 b2 b3 b4 kvs ws d) : m ≠ b4 := ne_of h.o h.st (by intro z; cases z)
theorem ModA.im (s : Kp F H H') (h : ModA O H m b1 b2 b3 b4 kvs ws d) (n : ∀ b, F b → ¬ DevG m b1 b2 b4 b) (f : ∀ a ds, Im H O (DevG m b1 b2 b4) a ds → Im H' O' (DevG m b1 b2 b4) a ds) (g : ∀ b, DevG m b1 b2 b4 b → O' b) : ModA O' H' m b1 b2 b3 b4 kvs ws d where
  o := s.get h.o fun z => n _ z (.inl rfl)
  pg := s.get h.pg fun z => n _ z (.inr (.inl rfl))
  pr := Paired.mono (fun _ _ r => r.im f) h.pr
  wr := s.get h.wr fun z => n _ z (.inr (.inr (.inl rfl)))
  wp := Paired.mono (fun _ _ r => r.im s f) h.wp
  lg := f _ _ h.lg
  st := s.get h.st fun z => n _ z (.inr (.inr (.inr rfl)))
  ne := h.ne
  n1 := h.n1
  ow := g
theorem ModA.same (s : Kp F0 H H') (h : ModA O H m b1 b2 b3 b4 kvs ws d) : ModA O H' m b1 b2 b3 b4 kvs ws d := h.im s (fun _ z => z.elim) (fun _ _ i => i.kp s fun _ z => z.elim) h.ow
theorem ModA.own (h : ModA O H m b1 b2 b3 b4 kvs ws d) (n : ∀ b, O b → O' b) : ModA O' H m b1 b2 b3 b4 kvs ws d := h.im (Kp.refl (F := F0) _) (fun _ z => z.elim) (fun _ _ i => ⟨i.1, n _ i.2.1, i.2.2⟩) fun b z => n _ (h.ow b z)
theorem ModA.trk (D : ModA O H m b1 b2 b3 b4 kvs ws d) (g : DevG m b1 b2 b4 b) : ∃ o, H b = some o := by
  rcases g with rfl | rfl | rfl | rfl
  · exact ⟨_, D.o⟩
  · exact ⟨_, D.pg⟩
  · exact ⟨_, D.wr⟩
  · exact ⟨_, D.st⟩
theorem ModA.fresh (D : ModA O H m b1 b2 b3 b4 kvs ws d) (hb : H b = none) : ¬ DevG m b1 b2 b4 b := fun z => by
  obtain ⟨o, ho⟩ := D.trk z
  rw [hb] at ho; cases ho
theorem ModAt.opn {O0 : Addr → Prop} (h : ModAt H m O0 d) : ∃ (O : Addr → Prop) (b1 b2 b3 b4 : Addr) (kvs : List (Key × V)) (ws : List V), O = (fun x => O0 x ∨ H x = none) ∧ ModA O H m b1 b2 b3 b4 kvs ws d ∧ ∀ b, DevG m b1 b2 b4 b → O0 b := by
  obtain ⟨⟨b1, b2, b3, b4, kvs, ws, D⟩, _⟩ := h
  exact ⟨_, b1, b2, b3, b4, kvs, ws, rfl, D.own fun _ z => .inl z, D.ow⟩
theorem ModA.clo {O0 : Addr → Prop} (D : ModA O H' m b1 b2 b3 b4 kvs ws d) (e : O = fun x => O0 x ∨ H x = none) : ModAt H' m (nO O0 H H') d := by
  subst e
  exact ⟨⟨b1, b2, b3, b4, kvs, ws, D.im (Kp.refl (F := F0) _) (fun _ z => z.elim) (fun a ds i => ⟨i.1, ⟨i.2.1, _, i.1⟩, i.2.2⟩) fun b z => ⟨D.ow b z, D.trk z⟩⟩, fun b z => z.2⟩
theorem ModAt.off (s : Kp F H H') (h : ModAt H m O d) (n : ∀ b, F b → ¬ O b) : ModAt H' m O d := by
  obtain ⟨⟨b1, b2, b3, b4, kvs, ws, D⟩, t⟩ := h
  refine ⟨⟨b1, b2, b3, b4, kvs, ws, D.im s (fun b z g => n b z (D.ow b g)) (fun a ds i => ⟨s.get i.1 fun z => n _ z i.2.1, i.2⟩) D.ow⟩, fun b z => ?_⟩
  obtain ⟨o, ho⟩ := t b z
  exact ⟨o, s.get ho fun y => n b y z⟩
/-- the numbers of the model change -/
theorem ModA.mk' {n : Int} {q : Option Int} (h : ModA O H m b1 b2 b3 b4 kvs ws d) (s : Kp (F1 m) H H') (o : H' m = some (.dK (RD_model (.ref b1) (.ref b2) (.ref b3) (.ref b4) (.int n) (.int (mo q))))) : ModA O H' m b1 b2 b3 b4 kvs ws { d with done := n, most := q } := by
  have sub : ∀ x, F1 m x → DevG m b1 b2 b4 x := fun x z => .inl z
  exact ⟨o, s.get h.pg h.n1.symm, Paired.mono (fun _ _ r => r.kp s sub) h.pr, s.get h.wr h.nm2.symm, Paired.mono (fun _ _ r => r.kp s sub) h.wp, h.lg.kp s sub, s.get h.st h.nm4.symm, h.ne, h.n1, h.ow⟩
theorem ModA.byte {q : Option Int} (D : ModA O H m b1 b2 b3 b4 kvs ws d) (k4 : Kp (F1 b4) H H') (h : H' b4 = some (.lst (d.steps.map mV ++ [mV q]))) : ModA O H' m b1 b2 b3 b4 kvs ws { d with steps := d.steps ++ [q] } := by
  have sub : ∀ x, F1 b4 x → DevG m b1 b2 b4 x := fun x z => .inr (.inr (.inr z))
  exact ⟨k4.get D.o D.nm4, k4.get D.pg D.n14, Paired.mono (fun _ _ r => r.kp k4 sub) D.pr, k4.get D.wr D.ne, Paired.mono (fun _ _ r => r.kp k4 sub) D.wp, D.lg.kp k4 sub, by rw [h]; simp, D.ne, D.n1, D.ow⟩
theorem ModA.put {l : Addr} {n : Int} {ds : List Int} (D : ModA O H m b1 b2 b3 b4 kvs ws d) (i : Im H O (DevG m b1 b2 b4) l ds) (k3 : Kp (F1 b1) H H') (h : H' b1 = some (.dK (putK kvs (.inl n) (.ref l)))) :
    ModA O H' m b1 b2 b3 b4 (putK kvs (.inl n) (.ref l)) ws { d with pages := aput d.pages n ds } := by
  have sub : ∀ x, F1 b1 x → DevG m b1 b2 b4 x := fun x z => .inr (.inl z)
  exact ⟨k3.get D.o D.n1, h, put_pr RPg.key ⟨rfl, l, rfl, i.kp k3 sub⟩ (Paired.mono (fun _ _ r => r.kp k3 sub) D.pr), k3.get D.wr D.n12.symm, Paired.mono (fun _ _ r => r.kp k3 sub) D.wp, D.lg.kp k3 sub, k3.get D.st D.n14.symm, D.ne, D.n1, D.ow⟩
theorem ModA.newL {c3 c4 : Addr} {lg : List Int} {sl : List (Option Int)} {n : Int} {q : Option Int} (D : ModA O H m b1 b2 b3 b4 kvs ws d) (h4 : H c4 = none) (k : Kp (F1 m) H H')
    (o : H' m = some (.dK (RD_model (.ref b1) (.ref b2) (.ref c3) (.ref c4) (.int n) (.int (mo q))))) (e3 : H' c3 = some (.lst (lg.map V.int))) (e4 : H' c4 = some (.lst (sl.map mV))) (n3 : ¬ DevG m b1 b2 c4 c3) (o3 : O c3) (o4 : O c4) :
    ModA O H' m b1 b2 c3 c4 kvs ws { pages := d.pages, writes := d.writes, log := lg, steps := sl, done := n, most := q } := by
  have nb := D.fresh h4
  have im : ∀ a ds, Im H O (DevG m b1 b2 b4) a ds → Im H' O (DevG m b1 b2 c4) a ds := fun a ds i => ⟨k.get i.1 fun z => i.2.2 (.inl z), i.2.1, by
    rintro (z | z | z | z)
    · exact i.2.2 (.inl z)
    · exact i.2.2 (.inr (.inl z))
    · exact i.2.2 (.inr (.inr (.inl z)))
    · exact ne_of_none i.1 h4 z⟩
  exact ⟨o, k.get D.pg D.n1.symm, Paired.mono (fun _ _ r => r.im im) D.pr, k.get D.wr D.nm2.symm, Paired.mono (fun _ _ r => r.im k im) D.wp, ⟨e3, o3, n3⟩, e4, fun z => nb (.inr (.inr (.inl z.symm))), D.n1, by
    rintro x (z | z | z | z)
    · exact D.ow _ (.inl z)
    · exact D.ow _ (.inr (.inl z))
    · exact D.ow _ (.inr (.inr (.inl z)))
    · rw [z]; exact o4⟩
theorem ModA.newW {e : Addr} (D : ModA O H m b1 b2 b3 b4 kvs ws d) (he : H e = none) (k : Kp (F1 m) H H') (o : H' m = some (.dK (RD_model (.ref b1) (.ref e) (.ref b3) (.ref b4) (.int d.done) (.int (mo d.most))))) (e4 : H' e = some (.lst [])) (o4 : O e) :
    ModA O H' m b1 e b3 b4 kvs [] { d with writes := [] } := by
  have nb := D.fresh he
  have im : ∀ a ds, Im H O (DevG m b1 b2 b4) a ds → Im H' O (DevG m b1 e b4) a ds := fun a ds i => ⟨k.get i.1 fun z => i.2.2 (.inl z), i.2.1, by
    rintro (z | z | z | z)
    · exact i.2.2 (.inl z)
    · exact i.2.2 (.inr (.inl z))
    · exact ne_of_none i.1 he z
    · exact i.2.2 (.inr (.inr (.inr z)))⟩
  exact ⟨o, k.get D.pg D.n1.symm, Paired.mono (fun _ _ r => r.im im) D.pr, e4, .nil, im _ _ D.lg, k.get D.st D.nm4.symm, fun z => nb (.inr (.inr (.inr z))), D.n1, by
    rintro x (z | z | z | z)
    · exact D.ow _ (.inl z)
    · exact D.ow _ (.inr (.inl z))
    · rw [z]; exact o4
    · exact D.ow _ (.inr (.inr (.inr z)))⟩
end
/-! displays -/
section
variable {σ : L2.St} {H : Hp} {Q : VK} {tk tv : TE} {r : List (TE × TE)} {R : List (V × V) → Hp → Prop}
theorem x_pc (h : tk σ H fun x H1 => tv σ H1 fun y H2 => tPairs r σ H2 fun ps H3 => R ((x, y) :: ps) H3) : tPairs ((tk, tv) :: r) σ H R := h
theorem x_pn (h : R [] H) : tPairs [] σ H R := h
theorem x_cutn {D : Ends} {t u : TS} (h : t { D with nx := u D } σ H) : C8.tCut t u D σ H := ⟨u D, h, fun _ _ z => z⟩
theorem if_df {p A B : Prop} [Decidable p] (n : ¬ p) (h : B) : if decide p = true then A else B := by rw [if_neg (by simpa using n)]; exact h
theorem if_dt {p A B : Prop} [Decidable p] (n : p) (h : A) : if decide p = true then A else B := by rw [if_pos (by simpa using n)]; exact h
end
def Pos (d : DevS) : Prop := (∀ b, some b ∈ d.steps → 0 ≤ b) ∧ 0 ≤ d.done ∧ ∀ m, d.most = some m → 0 ≤ m
section
variable {P : Program} {w : World} {K : PySem.W.Frag} {mg : Str → Option Value} {base : Heap} {c : Cl}
def d0 : DevS := ⟨[], [], [], [], 0, none⟩
def sp__law_new : Sp := fun vs H Q _ => vs = [] ∧ ∀ m H' O, ModAt H' m O d0 → Kp F0 H H' → (∀ b, O b → H b = none) → Q (.ref m) H'
theorem ok__law_new (T : Txt K mg c) : GF P w K mg base CX0 1 "_law_new" sp__law_new := by
  obtain ⟨f, fd, F, gm⟩ := T.f__law_new
  refine ⟨f, fd, [], F.ok sc__law_new ?_ (fun cdv A outer s H vs Q E hr h => ?_), gm, F.kp, (F.binds (ps := []) fun _ _ _ _ _ _ us hl => match us, hl with | [], _ => rfl)⟩
  · rintro vs H Q E ⟨rfl, _⟩
    rfl
  · obtain ⟨rfl, k⟩ := h
    refine ⟨_, (pss_one (ps_ret (pe_disp (pps_cons pe_str pe_dnewK (pps_cons pe_str (pe_lst pa_nil) (pps_cons pe_str (pe_lst pa_nil) (pps_cons pe_str (pe_lst pa_nil) (pps_cons pe_str pe_int (pps_cons pe_str (pe_un un_neg pe_int) pps_nil)))))) (by rfl) (by rfl) (fun z => by cases z) (by decide)))), ?_⟩
    walk_at "cx"
    walk_at "rd"
    intro m hm
    refine x_pc ?_
    walk_at "rd"
    refine x_dnew fun b1 H1 h1 k1 e1 => ?_
    refine x_pc ?_
    walk_at "rd"
    refine x_newL fun b2 H2 h2 k2 e2 => ?_
    refine x_pc ?_
    walk_at "rd"
    refine x_newL fun b3 H3 h3 k3 e3 => ?_
    refine x_pc ?_
    walk_at "rd"
    refine x_newL fun b4 H4 h4 k4 e4 => ?_
    refine x_pc ?_
    walk_at "rd"
    refine x_pc ?_
    walk_at "rd"
    refine x_pn ?_
    have km : Kp F0 H (upd H m (.dK [])) := Kp.new hm
    have m0 : (upd H m (.dK []) : Hp) m = some (.dK []) := upd_same
    have m1 := k1.get m0 id
    have m2 := k2.get m1 id
    have m3 := k3.get m2 id
    have m4 := k4.get m3 id
    have e12 := k2.get e1 id
    have e13 := k3.get e12 id
    have e14 := k4.get e13 id
    have e23 := k3.get e2 id
    have e24 := k4.get e23 id
    have e34 := k4.get e3 id
    have n1 : b1 ≠ m := (ne_of_none m0 h1).symm
    have n2 : b2 ≠ m := (ne_of_none m1 h2).symm
    have n3 : b3 ≠ m := (ne_of_none m2 h3).symm
    have n4 : b4 ≠ m := (ne_of_none m3 h4).symm
    have n12 : b1 ≠ b2 := ne_of_none e1 h2
    have n13 : b1 ≠ b3 := ne_of_none e12 h3
    have n14 : b1 ≠ b4 := ne_of_none e13 h4
    have n23 : b2 ≠ b3 := ne_of_none e2 h3
    have n24 : b2 ≠ b4 := ne_of_none e23 h4
    have n34 : b3 ≠ b4 := ne_of_none e3 h4
    refine ⟨m4, RD_model (.ref b1) (.ref b2) (.ref b3) (.ref b4) (.int 0) (.int (-1)), rfl, Nat.le_of_ble_eq_true rfl, ?_⟩
    rw [rm_model]
    have f1 := km.free h1 id
    have f2 := km.free (k1.free h2 id) id
    have f3 := km.free (k1.free (k2.free h3 id) id) id
    have f4 := km.free (k1.free (k2.free (k3.free h4 id) id) id) id
    refine k m _ (fun b => b = m ∨ b = b1 ∨ b = b2 ∨ b = b3 ∨ b = b4) ⟨⟨b1, b2, b3, b4, [], [], upd_same, by rw [upd_ne n1]; exact e14, .nil, by rw [upd_ne n2]; exact e24, .nil, ⟨by rw [upd_ne n3]; exact e34, .inr (.inr (.inr (.inl rfl))), ?_⟩, by rw [upd_ne n4]; exact e4, n24, n1.symm, ?_⟩, ?_⟩ ?_ ?_
    · rintro (z | z | z | z)
      · exact n3 z
      · exact n13 z.symm
      · exact n23 z.symm
      · exact n34 z
    · rintro b (z | z | z | z)
      · exact .inl z
      · exact .inr (.inl z)
      · exact .inr (.inr (.inl z))
      · exact .inr (.inr (.inr (.inr z)))
    · rintro b (rfl | rfl | rfl | rfl | rfl)
      · exact ⟨_, upd_same⟩
      · exact ⟨_, by rw [upd_ne n1]; exact e14⟩
      · exact ⟨_, by rw [upd_ne n2]; exact e24⟩
      · exact ⟨_, by rw [upd_ne n3]; exact e34⟩
      · exact ⟨_, by rw [upd_ne n4]; exact e4⟩
    · intro b o hb _
      rw [upd_ne (ne_of_none hb hm)]
      exact k4.get (k3.get (k2.get (k1.get (km.get hb id) id) id) id) id
    · rintro b (rfl | rfl | rfl | rfl | rfl)
      · exact hm
      · exact f1
      · exact f2
      · exact f3
      · exact f4
def sp__law_may : Sp := fun vs H Q _ => ∃ O m b1 b2 b3 b4 kvs ws d, vs = [.ref m] ∧ ModA O H m b1 b2 b3 b4 kvs ws d ∧ Pos d ∧
  (can d = true → ∀ H', ModA O H' m b1 b2 b3 b4 kvs ws { d with done := d.done + 1 } → Kp (F1 m) H H' → Q (.bl true) H') ∧ (can d = false → Q (.bl false) H)
theorem ok__law_may (T : Txt K mg c) : GF P w K mg base CX0 1 "_law_may" sp__law_may := by
  obtain ⟨f, fd, F, gm⟩ := T.f__law_may
  refine ⟨f, fd, ["_law_model"], F.ok sc__law_may ?_ (fun cdv A outer s H vs Q E hr h => ?_), gm, F.kp, (F.binds (ps := ["_law_model"]) fun _ _ _ _ _ _ us hl => match us, hl with | [_], _ => rfl)⟩
  · rintro vs H Q E ⟨_, _, _, _, _, _, _, _, _, rfl, _⟩
    rfl
  · obtain ⟨O, m, b1, b2, b3, b4, kvs, ws, d, rfl, D, pos, k, e⟩ := h
    have ho := D.o
    refine ⟨_, (pss_cons (ps_if (PW.pt (pw_and (pt_cmpR op_ge (pe_dget (hu_of hr) (pv 0) pe_str (fun _ _ => rfl)) pe_int (nomark _)) (pw_and1 (pt_cmpR op_ge (pe_dget (hu_of hr) (pv 0) pe_str (fun _ _ => rfl)) (pe_dget (hu_of hr) (pv 0) pe_str (fun _ _ => rfl)) (nomark _))))) (pss_one (ps_ret pe_bl)) pss_nil)
      (pss_cons (ps_dput (hu_of hr) (pv 0) pe_str (pe_op op_add (pe_dget (hu_of hr) (pv 0) pe_str (fun _ _ => rfl)) pe_int) rfl)
      (pss_one (ps_ret pe_bl)))), ?_⟩
    walk_at "cx"
    walk_at "rd"
    cases hm : d.most with
    | none =>
      refine if_df (by decide) ?_
      walk_at "rd"
      intro H1 p1 k1
      walk_at "rd"
      exact k (by unfold can; rw [hm]) H1 (by have q := D.mk' (n := d.done + 1) (q := d.most) k1 p1; exact q) k1
    | some n =>
      have n0 := pos.2.2 n hm
      have p0 := pos.2.1
      have ho' : H m = some (.dK (RD_model (.ref b1) (.ref b2) (.ref b3) (.ref b4) (.int d.done) (.int n))) := by have q := D.o; rw [hm] at q; exact q
      refine if_dt n0 ?_
      clear ho
      walk_at "rd"
      refine ite_dec (fun z => ?_) fun z => ?_
      · walk_at "rd"
        refine e ?_
        unfold can; rw [hm]; exact decide_eq_false (by omega)
      · walk_at "rd"
        intro H1 p1 k1
        walk_at "rd"
        exact k (by unfold can; rw [hm]; exact decide_eq_true (by omega)) H1 (by have q := D.mk' (n := d.done + 1) (q := d.most) k1 (by rw [hm]; exact p1); exact q) k1
def sp__law_log : Sp := fun vs H Q _ => ∃ O m b1 b2 b3 b4 kvs ws d, vs = [.ref m] ∧ ModA O H m b1 b2 b3 b4 kvs ws d ∧ Pos d ∧ Sml d ∧ ∀ b H', H b = none → Kp F0 H H' → H' b = some (.lst ((clog d).map V.int)) → Q (.ref b) H'
theorem ok__law_log (T : Txt K mg c) : GF P w K mg base CX0 1 "_law_log" sp__law_log := by
  obtain ⟨f, fd, F, gm⟩ := T.f__law_log
  refine ⟨f, fd, ["_law_model"], F.ok sc__law_log ?_ (fun cdv A outer s H vs Q E hr h => ?_), gm, F.kp, (F.binds (ps := ["_law_model"]) fun _ _ _ _ _ _ us hl => match us, hl with | [_], _ => rfl)⟩
  · rintro vs H Q E ⟨_, _, _, _, _, _, _, _, _, rfl, _⟩
    rfl
  · obtain ⟨O, m, b1, b2, b3, b4, kvs, ws, d, rfl, D, pos, sm, k⟩ := h
    have ho := D.o
    have hs := D.st
    refine ⟨_, (pss_cons (ps_set (i := 1) sc__law_log.nd rfl (Or.inl rfl) (pe_callTy (r := rLstQ K) c_list (by rfl) T.z_list (by decide +kernel) (pa_cons (pe_dget (hu_of hr) (pv 0) pe_str (fun _ _ => rfl)) pa_nil)))
      (pss_cons (ps_for PassesOwn.never rfl (pi_listK rfl (pe_dget (hu_of hr) (pv 0) pe_str (fun _ _ => rfl))) (pg_name (i := 2) sc__law_log.nd rfl (Or.inl rfl)) (pss_one (ps_if (pt_cmpR op_lt (pv 2) pe_int (nomark _)) (pss_one (ps_set (i := 1) sc__law_log.nd rfl (Or.inl rfl) (pe_lst pa_nil))) (pss_one (ps_expr (pe_kBM rfl (pe_bm PySem.F.plainAttrs_list PySem.F.slot_list_append PySem.F.type_list_append mt_append (pv 1) (pa_cons (pv 2) pa_nil))))))))
      (pss_one (ps_ret (pv 1))))), ?_⟩
    walk_at "cx"
    walk_at "rd"
    refine x_lstL (SqL.of D.lg.1) fun b H1 hb k1 hb1 => ?_
    have ho1 := k1.get ho id
    have hs1 := k1.get hs id
    walk_at "rd"
    refine wfor Wk.list (fun i σ H' => ∃ b u, σ = [some (.ref m), some (.ref b), u] ∧ H' b = some (.lst (((d.steps.take i).foldl lstep d.log).map V.int)) ∧ H b = none ∧ Kp F0 H H')
      ⟨b, none, rfl, hb1, hb, k1⟩ (fun i σ H' ⟨_, _, _, _, _, kk⟩ => SqL.of (kk.get hs id)) ?_ ?_
    · rintro i x σ H2 ex ⟨b, u, rfl, hb2, hb0, kk⟩
      have e : ∃ o, d.steps[i]? = some o ∧ x = mV o := by
        rw [List.getElem?_map] at ex
        cases q : d.steps[i]? with
        | none => rw [q] at ex; cases ex
        | some z => rw [q] at ex; exact ⟨z, rfl, (Option.some.inj ex).symm⟩
      obtain ⟨o, eo, rfl⟩ := e
      have tk : (d.steps.take (i + 1)).foldl lstep d.log = lstep ((d.steps.take i).foldl lstep d.log) o := by rw [List.take_succ, eo, List.foldl_append]; rfl
      have ll := lsteps_len (d.steps.take i) d.log
      have l2 : (d.steps.take i).length ≤ d.steps.length := by rw [List.length_take]; omega
      have := sm.2.2.1
      cases o with
      | none =>
        show gName 2 (.int (-1)) _ _ _
        walk_at "rd"
        refine if_dt (by decide) ?_
        walk_at "rd"
        refine x_newL fun b' H3 hb' k3 hb3 => ?_
        exact ⟨b', _, rfl, by rw [tk]; exact hb3, kk.free hb' id, kk.trans k3 fun _ z => z.elim⟩
      | some y =>
        have y0 : 0 ≤ y := pos.1 y (List.mem_of_getElem? eo)
        show gName 2 (.int y) _ _ _
        walk_at "rd"
        refine if_df (by omega) ?_
        walk_at "rd"
        refine x_app hb2 (by rw [List.length_map]; omega) fun H3 hb3 k3 => ?_
        exact ⟨b, some (.int y), rfl, by rw [tk, hb3]; show _ = some (HO.lst (((d.steps.take i).foldl lstep d.log ++ [y]).map V.int)); rw [List.map_append]; rfl, hb0, kk.trans k3 fun x z => .inr (by rw [z]; exact hb0)⟩
    · rintro σ H2 ⟨b, u, rfl, hb2, hb0, kk⟩
      rw [List.length_map, List.take_length] at hb2
      walk_at "rd"
      exact k b H2 hb0 kk hb2
def curw (ws : List (Int × List Int)) (n : Int) (a : List Int) : List Int := ws.foldl (fun a q => if q.1 = n then q.2 else a) a
theorem curw_rev (n : Int) (a : List Int) : ∀ rs : List (Int × List Int), curw rs.reverse n a = match rs.find? (fun q => decide (q.1 = n)) with
    | some q => q.2
    | none => a
  | [] => rfl
  | q :: rs => by
    have h := curw_rev n a rs
    unfold curw at *
    rw [List.reverse_cons, List.foldl_append]
    show (if q.1 = n then q.2 else _) = _
    by_cases e : q.1 = n
    · rw [if_pos e, List.find?_cons_of_pos (by exact decide_eq_true e)]
    · rw [if_neg e, List.find?_cons_of_neg (by simpa using e)]; exact h
theorem cpg_curw (d : DevS) (n : Int) : cpg d n = curw d.writes n (dpg d n) := by
  have h := curw_rev n (dpg d n) d.writes.reverse
  rw [List.reverse_reverse] at h
  rw [h]; rfl
theorem getD_pr {O G : Addr → Prop} {H H1 : Hp} {kvs : List (Key × V)} {l : List (Int × List Int)} {n : Int} {z : Addr} (t : Paired (RPg H O G) kvs l) (k : Kp F0 H H1) (hz : H1 z = some (.lst (zeros.map V.int))) :
    ∃ a, (valV kvs (.inl n)).getD (.ref z) = .ref a ∧ H1 a = some (.lst (((aget l n).getD zeros).map V.int)) := by
  rcases get_pr RPg.key n t with ⟨e1, e2⟩ | ⟨v, ds, e1, e2, _, a, rfl, i⟩
  · exact ⟨z, by rw [e1]; rfl, by rw [e2]; exact hz⟩
  · exact ⟨a, by rw [e1]; rfl, by rw [e2]; exact k.get i.1 id⟩
def sp__law_page : Sp := fun vs H Q _ => ∃ O m b1 b2 b3 b4 kvs ws d n, vs = [.ref m, .int n] ∧ ModA O H m b1 b2 b3 b4 kvs ws d ∧ ∀ b H', Kp F0 H H' → H' b = some (.lst ((cpg d n).map V.int)) → Q (.ref b) H'
theorem ok__law_page (T : Txt K mg c) : GF P w K mg base CX0 1 "_law_page" sp__law_page := by
  obtain ⟨f, fd, F, gm⟩ := T.f__law_page
  refine ⟨f, fd, ["_law_model", "_law_number"], F.ok sc__law_page ?_ (fun cdv A outer s H vs Q E hr h => ?_), gm, F.kp, (F.binds (ps := ["_law_model", "_law_number"]) fun _ _ _ _ _ _ us hl => match us, hl with | [_, _], _ => rfl)⟩
  · rintro vs H Q E ⟨_, _, _, _, _, _, _, _, _, _, rfl, _⟩
    rfl
  · obtain ⟨O, m, b1, b2, b3, b4, kvs, ws, d, n, rfl, D, k⟩ := h
    have ho := D.o
    have hp := D.pg
    have hw := D.wr
    refine ⟨_, (pss_cons (ps_set (i := 2) sc__law_page.nd rfl (Or.inl rfl) (pe_dget2 (hu_of hr) (pe_dget (hu_of hr) (pv 0) pe_str (fun _ _ => rfl)) (pv 1) (pe_op op_rep (pe_lst (pa_cons pe_int pa_nil)) pe_int) ⟨rfl, rfl, rfl, rfl⟩))
      (pss_cons (ps_for PassesOwn.never rfl (pi_listK rfl (pe_dget (hu_of hr) (pv 0) pe_str (fun _ _ => rfl))) (pg_kT rfl (pg_tup (n := 2) rfl (pgs_cons (pg_name (i := 3) sc__law_page.nd rfl (Or.inl rfl)) (pgs_cons (pg_name (i := 4) sc__law_page.nd rfl (Or.inl rfl)) pgs_nil)))) (pss_one (ps_if (pt_cmpR op_eq (pv 3) (pv 1) (nomark _)) (pss_one (ps_set (i := 2) sc__law_page.nd rfl (Or.inl rfl) (pv 4))) pss_nil)))
      (pss_one (ps_ret (pv 2))))), ?_⟩
    walk_at "cx"
    walk_at "rd"
    refine x_newL fun z0 H1 hz0 k1 e1 => ?_
    walk_at "rd"
    refine x_rep e1 (by decide) (by decide) fun z1 H2 hz1 k2 e2 => ?_
    have k12 : Kp F0 H H2 := k1.trans k2 fun _ z => z.elim
    have e2' : H2 z1 = some (.lst (zeros.map V.int)) := by rw [e2]; unfold zeros; rw [List.map_replicate]; rfl
    obtain ⟨a, ea, ha⟩ := getD_pr (n := n) D.pr k12 e2'
    have ho2 := k12.get ho id
    have hw2 := k12.get hw id
    have hp2 := k12.get hp id
    have D2 := D.same k12
    walk_at "rd"
    rw [ea]
    refine wfor Wk.list (fun i σ H' => ∃ a u v, σ = [some (.ref m), some (.int n), some (.ref a), u, v] ∧ H2 = H' ∧ H' a = some (.lst ((curw (d.writes.take i) n (dpg d n)).map V.int)))
      ⟨a, none, none, rfl, rfl, ha⟩ (fun i σ H' ⟨_, _, _, _, e, _⟩ => by rw [← e]; exact SqL.of hw2) ?_ ?_
    · rintro i x σ H' ex ⟨a, u, v, rfl, rfl, ha⟩
      obtain ⟨q, eq, t, a', rfl, ht, hi⟩ := pget D2.wp ex
      have tk : curw (d.writes.take (i + 1)) n (dpg d n) = if q.1 = n then q.2 else curw (d.writes.take i) n (dpg d n) := by unfold curw; rw [List.take_succ, eq, List.foldl_append]; rfl
      walk_at "rd"
      refine ite_dec (fun e => ?_) fun e => ?_
      · walk_at "rd"
        exact ⟨a', _, _, rfl, rfl, by rw [tk, if_pos e]; exact hi.1⟩
      · exact ⟨a, _, _, rfl, rfl, by rw [tk, if_neg e]; exact ha⟩
    · rintro σ H' ⟨a, u, v, rfl, rfl, ha⟩
      rw [show ws.length = d.writes.length from D.wp.length, List.take_length] at ha
      walk_at "rd"
      exact k a H2 k12 (by rw [cpg_curw]; exact ha)
def sp__law_crash (K : PySem.W.Frag) : Sp := fun vs H Q _ => ∃ m O d l fs n, vs = [.ref m, .ref l, .int n] ∧ 0 ≤ n ∧ ModAt H m O d ∧ SqL K H l (fs.map V.int) ∧ ¬ O l ∧ Sml d ∧ Pos d ∧ ∀ H' O', ModAt H' m O' (dCrash fs n.toNat d) → Stp O O' H H' → Q .non H'
theorem cutM_take {ss : List (Option Int)} {j : Int} (h0 : 0 ≤ j) : cutV (ss.map mV) none (some j) = (ss.take j.toNat).map mV := by
  obtain ⟨k, rfl⟩ := Int.eq_ofNat_of_zero_le h0
  unfold cutV
  rw [HT.sIx_none, HT.sIx_nat]
  simp only [List.drop_zero, Nat.sub_zero, List.length_map, List.map_take, Int.toNat_natCast]
  by_cases q : k ≤ ss.length
  · rw [show min k ss.length = k by omega]
  · rw [show min k ss.length = ss.length by omega, List.take_of_length_le (by simp), List.take_of_length_le (by simp; omega)]
theorem ok__law_crash (T : Txt K mg c) : GF P w K mg base CX0 2 "_law_crash" (sp__law_crash K) := by
  obtain ⟨f, fd, F, gm⟩ := T.f__law_crash
  refine ⟨f, fd, ["_law_model", "_law_fates", "_law_kept"], F.ok sc__law_crash ?_ (fun cdv A outer s H vs Q E hr h => ?_), gm, F.kp, (F.binds (ps := ["_law_model", "_law_fates", "_law_kept"]) fun _ _ _ _ _ _ us hl => match us, hl with | [_, _, _], _ => rfl)⟩
  · rintro vs H Q E ⟨_, _, _, _, _, _, rfl, _⟩
    rfl
  · obtain ⟨m, O0, d, l, fs, n, rfl, hn, hD, hl, nl, sm, pos, k⟩ := h
    obtain ⟨O, b1, b2, b3, b4, kvs, ws, eO, D, og⟩ := hD.opn
    have fr : ∀ {x}, H x = none → O x := fun h => by rw [eO]; exact .inr h
    have ho := D.o
    have hw := D.wr
    have lw : ws.length = d.writes.length := D.wp.length
    have := sm.1
    have := sm.2.1
    refine ⟨_, (pss_cons (ps_for PassesOwn.never rfl (pi_range1 (by rfl) T.z_range (pa_cons (pe_callB (c_min2 rfl) (by rfl) T.z_min (by decide +kernel) (pa_cons (pe_callB (r := rLenQ K) c_len (by rfl) T.z_len PySem.boot_len (pa_cons (pv 1) pa_nil)) (pa_cons (pe_callB (r := rLenQ K) c_len (by rfl) T.z_len PySem.boot_len (pa_cons (pe_dget (hu_of hr) (pv 0) pe_str (fun _ _ => rfl)) pa_nil)) pa_nil))) pa_nil)) (pg_name (i := 3) sc__law_crash.nd rfl (Or.inl rfl)) (pss_cons (ps_asg (pe_ix (r := rIxL K) ix_list (pe_dget (hu_of hr) (pv 0) pe_str (fun _ _ => rfl)) (pv 3) (fun _ _ => rfl)) (pg_kT rfl (pg_tup (n := 2) rfl (pgs_cons (pg_name (i := 4) sc__law_crash.nd rfl (Or.inl rfl)) (pgs_cons (pg_name (i := 5) sc__law_crash.nd rfl (Or.inl rfl)) pgs_nil)))))
      (pss_cons (ps_set (i := 6) sc__law_crash.nd rfl (Or.inl rfl) (pe_dget2 (hu_of hr) (pe_dget (hu_of hr) (pv 0) pe_str (fun _ _ => rfl)) (pv 4) (pe_op op_rep (pe_lst (pa_cons pe_int pa_nil)) pe_int) ⟨rfl, rfl, rfl, rfl⟩))
      (C8.pss_cut (ps_if (pt_cmpR op_eq (pe_ix (r := rIxL K) ix_list (pv 1) (pv 3) (fun _ _ => rfl)) pe_int (nomark _)) (pss_one (ps_dput (hu_of hr) (pe_dget (hu_of hr) (pv 0) pe_str (fun _ _ => rfl)) (pv 4) (pv 5) rfl)) pss_nil)
      (pss_one (ps_if (pt_cmpR op_eq (pe_ix (r := rIxL K) ix_list (pv 1) (pv 3) (fun _ _ => rfl)) pe_int (nomark _)) (pss_one (ps_dput (hu_of hr) (pe_dget (hu_of hr) (pv 0) pe_str (fun _ _ => rfl)) (pv 4) (pe_op op_cat (pe_slice (r := rSlL K) sl_list (pv 5) po_none (po_some pe_int)) (pe_slice (r := rSlL K) sl_list (pv 6) (po_some pe_int) po_none)) rfl)) pss_nil))))))
      (pss_cons (ps_dput (hu_of hr) (pv 0) pe_str (pe_lst pa_nil) rfl)
      (pss_cons (ps_dput (hu_of hr) (pv 0) pe_str (pe_slice (r := rSlL K) sl_list (pe_dget (hu_of hr) (pv 0) pe_str (fun _ _ => rfl)) po_none (po_some (pv 2))) rfl)
      (pss_cons (ps_dput (hu_of hr) (pv 0) pe_str (pe_g (ok__law_log T) (hr.mono (by decide)) pass0S (pa_cons (pv 0) pa_nil)) rfl)
      (pss_cons (ps_dput (hu_of hr) (pv 0) pe_str (pe_lst pa_nil) rfl)
      (pss_one (ps_dput (hu_of hr) (pv 0) pe_str (pe_un un_neg pe_int) rfl))))))), ?_⟩
    walk_at "cx"
    walk_at "rd"
    rw [lw, List.length_map]
    walk_at "rd"
    refine wfor Wk.rng (fun i σ H' => ∃ kvs' u v w z, σ = [some (.ref m), some (.ref l), some (.int n), u, v, w, z] ∧ ModA O H' m b1 b2 b3 b4 kvs' ws { d with pages := ((d.writes.zip fs).take i).foldl dFate d.pages } ∧ Kp (DevG m b1 b2 b4) H H')
      ⟨kvs, none, none, none, none, rfl, D, Kp.refl _⟩ (fun _ _ _ _ => trivial) ?_ ?_
    · rintro i x σ H2 ex ⟨kvs', u, v, w, z, rfl, D2, kk⟩
      obtain ⟨hi, rfl⟩ := rgl_at ex
      have i1 : i < fs.length := by omega
      have i2 : i < d.writes.length := by omega
      have ho2 := D2.o
      have hw2 := D2.wr
      have hl2 := kk.sqL hl fun z => nl (og _ z)
      have hwi : ws[i]? = some ws[i] := List.getElem?_eq_getElem (by omega)
      obtain ⟨q, eq, t, a, ew, ht, hi2⟩ := pget D2.wp hwi
      have eq' : d.writes[i]? = some q := eq
      have hfi := at_of_lt i1
      have gfi : fs.getD i 0 = fs[i] := by rw [List.getD_eq_getElem?_getD, List.getElem?_eq_getElem i1]; rfl
      generalize hpg : ((d.writes.zip fs).take i).foldl dFate d.pages = pg at D2
      have tk : ((d.writes.zip fs).take (i + 1)).foldl dFate d.pages = dFate pg (q, fs.getD i 0) := by
        have z : (d.writes.zip fs)[i]? = some (q, fs.getD i 0) := by
          rw [List.getElem?_zip_eq_some]; exact ⟨eq', by rw [gfi]; exact List.getElem?_eq_getElem i1⟩
        rw [List.take_succ, z, List.foldl_append, ← hpg]; rfl
      have pl := dFates_len ((d.writes.zip fs).take i) d.pages
      have pl2 : ((d.writes.zip fs).take i).length ≤ d.writes.length := by rw [List.length_take, List.length_zip]; omega
      have pl3 : kvs'.length = pg.length := D2.pr.length
      have psz : Sz pg := by rw [← hpg]; exact dFates_sz sm.2.2.2.1 fun q hq => sm.2.2.2.2 q.1 (List.of_mem_zip (List.mem_of_mem_take hq)).1
      rw [hpg] at pl
      walk_at "rd"
      refine x_ixL (SqL.of hw2) (atI_at i (by omega) hwi) ?_
      rw [ew]
      have hp2 := D2.pg
      walk_at "rd"
      refine x_newL fun z0 H3 hz0 k3 e3 => ?_
      walk_at "rd"
      refine x_rep e3 (by decide) (by decide) fun z1 H4 hz1 k4 e4 => ?_
      have k24 : Kp F0 H2 H4 := k3.trans k4 fun _ z => z.elim
      have e4' : H4 z1 = some (.lst (zeros.map V.int)) := by rw [e4]; unfold zeros; rw [List.map_replicate]; rfl
      obtain ⟨old, eold, hold⟩ := getD_pr (n := q.1) D2.pr k24 e4'
      have D4 := D2.same k24
      have ho4 := D4.o
      have hp4 := D4.pg
      have hl4 := k24.sqL hl2 id
      have hi4 := hi2.kp (G := DevG m b1 b2 b4) k24 fun _ z => z.elim
      walk_at "rd"
      rw [eold]
      walk_at "rd"
      refine x_cut (fun σ' H' => ∃ kvs', σ' = [some (.ref m), some (.ref l), some (.int n), some (.int (0 + (i : Int))), some (.int q.1), some (.ref a), some (.ref old)] ∧ ModA O H' m b1 b2 b3 b4 kvs' ws { d with pages := if fs.getD i 0 = 1 then aput pg q.1 q.2 else pg } ∧ (fs.getD i 0 ≠ 1 → H4 = H') ∧ Kp (DevG m b1 b2 b4) H H') ?_ ?_
      · walk_at "rd"
        refine x_ixL hl4 (atI_at i (by omega) hfi) ?_
        walk_at "rd"
        refine ite_dec (fun e => ?_) fun e => ?_
        · walk_at "rd"
          refine x_dpI hp4 (by omega) fun H5 hp5 k5 => ?_
          refine ⟨putK kvs' (.inl q.1) (.ref a), rfl, ?_, fun z => absurd e z, (kk.trans k24 fun _ z => z.elim).trans k5 fun x z => .inl (.inr (.inl z))⟩
          rw [if_pos e]
          exact D4.put hi4 k5 hp5
        · exact ⟨kvs', rfl, by rw [if_neg e]; exact D4, fun _ => rfl, kk.trans k24 fun _ z => z.elim⟩
      · rintro σ' H5 ⟨kvs5, rfl, D5, hH5, kk5⟩
        have ho5 := D5.o
        have hl5 := kk5.sqL hl fun z => nl (og _ z)
        walk_at "rd"
        refine x_ixL hl5 (atI_at i (by omega) hfi) ?_
        walk_at "rd"
        refine ite_dec (fun e => ?_) fun e => ?_
        · have e1 : fs.getD i 0 ≠ 1 := by rw [e]; decide
          have := hH5 e1
          subst this
          rw [if_neg e1] at D5
          walk_at "rd"
          refine x_slL (SqL.of hi4.1) fun s1 H6 hs1 k6 hs16 => ?_
          rw [cut_half_to] at hs16
          have hold6 := k6.get hold id
          walk_at "rd"
          refine x_slL (SqL.of hold6) fun s2 H7 hs2 k7 hs27 => ?_
          rw [cut_half_from] at hs27
          have hs17 := k7.get hs16 id
          walk_at "rd"
          refine x_catL hs17 hs27 (by
            rw [List.length_map, List.length_map, List.length_take, List.length_drop, sizeLine_eq]
            have : ((aget pg q.1).getD zeros).length ≤ 256 := aget_sz psz
            show _ + (((aget pg q.1).getD zeros).length - 128) ≤ _
            have : q.2.length ≤ 256 := sm.2.2.2.2 q (List.mem_of_getElem? eq')
            omega) fun s4 H8 hs4 k8 hs48 => ?_
          rw [← List.map_append] at hs48
          have D8 := ((D5.same k6).same k7).same k8
          have nb4 := ((D5.same k6).same k7).fresh hs4
          have ho8 := D8.o
          have hp8 := D8.pg
          have pl5 : kvs5.length = pg.length := D5.pr.length
          walk_at "rd"
          refine x_dpI hp8 (by omega) fun H9 hp9 k9 => ?_
          have kz : Kp F0 H4 H8 := (k6.trans k7 fun _ z => z.elim).trans k8 fun _ z => z.elim
          refine ⟨putK kvs5 (.inl q.1) (.ref s4), _, _, _, _, rfl, ?_, (kk5.trans kz fun _ z => z.elim).trans k9 fun x z => .inl (.inr (.inl z))⟩
          rw [tk, show dFate pg (q, fs.getD i 0) = aput pg q.1 (q.2.take 128 ++ ((aget pg q.1).getD zeros).drop 128) by unfold dFate; rw [if_neg e1, if_pos e]]
          exact D8.put ⟨hs48, fr (kk5.free (k6.free (k7.free hs4 id) id) nb4), nb4⟩ k9 hp9
        · refine ⟨kvs5, _, _, _, _, rfl, ?_, kk5⟩
          rw [tk, show dFate pg (q, fs.getD i 0) = if fs.getD i 0 = 1 then aput pg q.1 q.2 else pg by unfold dFate; rw [if_neg (c := fs.getD i 0 = 2) e]]
          exact D5
    · rintro σ H2 ⟨kvs', u, v, w, z, rfl, D2, kk⟩
      have et : (d.writes.zip fs).take (rgl 0 (min (fs.length : Int) (d.writes.length : Int)).toNat).length = d.writes.zip fs := List.take_of_length_le (by rw [rgl_len, List.length_zip]; omega)
      rw [et] at D2
      have ho2 := D2.o
      walk_at "rd"
      refine x_newL fun b H3 hb k3 hb3 => ?_
      have D3 := D2.same k3
      have ho3 := D3.o
      have nb := D2.fresh hb
      have nbm : b ≠ m := fun z => nb (.inl z)
      walk_at "rd"
      intro H4 p4 k4
      have f2 : ∀ x, H2 x = none → H x = none := fun x hx => kk.free hx (D2.fresh hx)
      have kf : Kp (F1 m) H2 H4 := (k3.mono fun _ z => z.elim).trans k4 fun _ z => .inl z
      have D4 := D2.newW hb kf p4 (k4.get hb3 nbm) (fr (f2 _ hb))
      have ho4 := D4.o
      have hs4 := D4.st
      walk_at "rd"
      refine x_slL (SqL.of hs4) fun s1 H5 hs1 k5 hs15 => ?_
      rw [cutM_take hn] at hs15
      have D5 := D4.same k5
      have ho5 := D5.o
      have ns1 := D4.fresh hs1
      have ns1m : s1 ≠ m := fun z => ns1 (.inl z)
      walk_at "rd"
      intro H6 p6 k6
      have k46 : Kp (F1 m) H4 H6 := (k5.mono fun _ z => z.elim).trans k6 fun _ z => .inl z
      have f4 : ∀ x, H4 x = none → x ≠ m → H x = none := fun x hx n => f2 _ (kf.free hx n)
      have n3 : ¬ DevG m b1 b s1 b3 := by
        rintro (z | z | z | z)
        · exact D4.lg.2.2 (.inl z)
        · exact D4.lg.2.2 (.inr (.inl z))
        · exact D4.lg.2.2 (.inr (.inr (.inl z)))
        · exact ne_of_none D4.lg.1 hs1 z
      have D6 := D4.newL (lg := d.log) (sl := d.steps.take n.toNat) (n := d.done) (q := d.most) hs1 k46 p6 (k46.get D4.lg.1 fun z => D4.lg.2.2 (.inl z)) (k6.get hs15 ns1m) n3 D4.lg.2.1 (fr (f4 _ hs1 ns1m))
      have ho6 := D6.o
      walk_at "rd"
      refine ⟨_, m, _, _, _, _, _, _, _, rfl, D6, ⟨fun b hb => pos.1 b (List.mem_of_mem_take hb), pos.2.1, pos.2.2⟩, ?_, fun g H7 hg k7 hg7 => ?_⟩
      · refine ⟨Nat.zero_le _, ?_, ?_, dFates_sz sm.2.2.2.1 fun q hq => sm.2.2.2.2 q.1 (List.of_mem_zip hq).1, fun q hq => by cases hq⟩
        · have h1 := dFates_len (d.writes.zip fs) d.pages
          have h2 : (d.writes.zip fs).length ≤ d.writes.length := by rw [List.length_zip]; omega
          show ((d.writes.zip fs).foldl dFate d.pages).length + 0 ≤ 2000000
          have := sm.2.1
          omega
        · have h1 := sm.2.2.1
          show d.log.length + (d.steps.take n.toNat).length ≤ 8000000
          rw [List.length_take]; omega
      have D7 := D6.same k7
      have ho7 := D7.o
      have ng := D6.fresh hg
      have ngm : g ≠ m := fun z => ng (.inl z)
      walk_at "rd"
      intro H8 p8 k8
      have hg8 := k8.get hg7 ngm
      walk_at "rd"
      refine x_newL fun e H9 he k9 he9 => ?_
      have nem : e ≠ m := fun z => by rw [z, p8] at he; cases he
      have nge : g ≠ e := ne_of_none hg8 he
      walk_at "rd"
      intro H10 p10 k10
      walk_at "rd"
      intro H11 p11 k11
      have kl : Kp (F1 m) H6 H11 := ((((k7.mono fun _ z => z.elim).trans k8 fun _ z => .inl z).trans k9 fun _ z => z.elim).trans k10 fun _ z => .inl z).trans k11 fun _ z => .inl z
      have he6 : H6 e = none := k7.free (k8.free he nem) id
      have D11 := D6.newL (lg := (d.steps.take n.toNat).foldl lstep d.log) (sl := []) (n := d.done) (q := none) he6 kl p11 (k11.get (k10.get (k9.get hg8 id) ngm) ngm) (k11.get (k10.get he9 nem) nem) (by
        rintro (z | z | z | z)
        · exact ngm z
        · exact ng (.inr (.inl z))
        · exact ng (.inr (.inr (.inl z)))
        · exact nge z) (fr (f4 _ (k46.free hg ngm) ngm)) (fr (f4 _ (k46.free he6 nem) nem))
      have k26 : Kp (F1 m) H2 H6 := kf.trans k46 fun _ z => .inl z
      exact k H11 _ (D11.clo eO) (Stp.nO (G := DevG m b1 b2 b4) (kk.trans (k26.trans kl fun _ z => .inl z) fun _ z => .inl (.inl z)) og)
end
section
variable {P : Program} {w : World} {K : PySem.W.Frag} {mg : Str → Option Value} {base : Heap} {c : Cl}
theorem ix_ok {n j : Nat} (h : j < n) : ixN n ((j : Nat) : Int) = some j := by
  have h1 : (0 : Int) ≤ (j : Int) := by omega
  have h2 : (j : Int) < (n : Int) := by omega
  unfold ixN; rw [if_pos h1, if_pos h2]; rfl
def dOp (k n : Int) (ds : List Int) (d : DevS) : DevS × Bool :=
  if k = 0 then dWrite n ds d else if k = 1 then dSyncP d else if k = 2 then dApp (ds.take n.toNat) d else if k = 3 then dByte none d else dSyncL d
def PosI (ds : List Int) : Prop := ∀ b ∈ ds, 0 ≤ b
theorem cut_to' {a : List Int} {j : Int} (h0 : 0 ≤ j) : cutV (a.map V.int) none (some j) = (a.take j.toNat).map V.int := by
  obtain ⟨k, rfl⟩ := Int.eq_ofNat_of_zero_le h0
  unfold cutV
  rw [HT.sIx_none, HT.sIx_nat]
  simp only [List.drop_zero, Nat.sub_zero, List.length_map, List.map_take, Int.toNat_natCast]
  by_cases q : k ≤ a.length
  · rw [show min k a.length = k by omega]
  · rw [show min k a.length = a.length by omega, List.take_of_length_le (by simp), List.take_of_length_le (by simp; omega)]
theorem pos_app : ∀ (bs : List Int) (d : DevS), Pos d → PosI bs → Pos (dApp bs d).1
  | [], d, p, _ => p
  | b :: bs, d, p, q => by
    show Pos (if (dByte (some b) d).2 = true then dApp bs (dByte (some b) d).1 else (d, false)).1
    split
    · refine pos_app bs _ ?_ fun x hx => q x (List.mem_cons_of_mem _ hx)
      unfold dByte pw
      split
      · refine ⟨fun x hx => ?_, by have := p.2.1; show 0 ≤ d.done + 1; omega, p.2.2⟩
        rcases List.mem_append.mp hx with h | h
        · exact p.1 x h
        · cases List.mem_singleton.mp h
          exact q _ (by simp)
      · exact p
    · exact p
theorem ModA.nw {O : Addr → Prop} {H H' : Hp} {m b1 b2 b3 b4 t l : Addr} {kvs : List (Key × V)} {ws : List V} {d : DevS} {n : Int} {ds : List Int} (D : ModA O H m b1 b2 b3 b4 kvs ws d) (ht : H t = some (.tup [.int n, .ref l])) (i : Im H O (DevG m b1 b2 b4) l ds) (k : Kp (F1 b2) H H') (h : H' b2 = some (.lst (ws ++ [.ref t]))) :
    ModA O H' m b1 b2 b3 b4 kvs (ws ++ [.ref t]) { d with writes := d.writes ++ [(n, ds)] } := by
  have sub : ∀ x, F1 b2 x → DevG m b1 b2 b4 x := fun x z => .inr (.inr (.inl z))
  refine ⟨k.get D.o D.nm2, k.get D.pg D.n12, Paired.mono (fun _ _ r => r.kp k sub) D.pr, h, ?_, D.lg.kp k sub, k.get D.st D.ne.symm, D.ne, D.n1, D.ow⟩
  exact Paired.snoc (Paired.mono (fun _ _ r => r.kp k sub) D.wp) ⟨t, l, rfl, k.tup ht, i.kp k sub⟩
def sp__law_expected (K : PySem.W.Frag) : Sp := fun vs H Q _ => ∃ m O d k n l ds, vs = [.ref m, .int k, .int n, .ref l] ∧ (k = 0 ∨ k = 1 ∨ k = 2 ∨ k = 3 ∨ k = 4) ∧ 0 ≤ n ∧ ModAt H m O d ∧ SqL K H l (ds.map V.int) ∧ ¬ O l ∧ ds.length ≤ 256 ∧ Sml d ∧ Pos d ∧ PosI ds ∧
  ∀ H' O', ModAt H' m O' (dOp k n ds d).1 → Stp O O' H H' → Q (.bl (dOp k n ds d).2) H'
theorem ok__law_expected (T : Txt K mg c) : GF P w K mg base CX0 2 "_law_expected" (sp__law_expected K) := by
  obtain ⟨f, fd, F, gm⟩ := T.f__law_expected
  refine ⟨f, fd, ["_law_model", "_law_kind", "_law_number", "_law_data"], F.ok sc__law_expected ?_ (fun cdv A outer s H vs Q E hr h => ?_), gm, F.kp, (F.binds (ps := ["_law_model", "_law_kind", "_law_number", "_law_data"]) fun _ _ _ _ _ _ us hl => match us, hl with | [_, _, _, _], _ => rfl)⟩
  · rintro vs H Q E ⟨_, _, _, _, _, _, _, rfl, _⟩
    rfl
  · obtain ⟨m, O0, d, k, n, l, ds, rfl, hk, hn, hD, hl, nl, hz, sm, pos, psi, q⟩ := h
    obtain ⟨O, b1, b2, b3, b4, kvs, ws, eO, D, og⟩ := hD.opn
    have fr : ∀ {x}, H x = none → O x := fun h => by rw [eO]; exact .inr h
    have ho := D.o
    have hw := D.wr
    have lw : ws.length = d.writes.length := D.wp.length
    refine ⟨_, (pss_cons (ps_if (pt_cmpR op_eq (pv 1) pe_int (nomark _)) (pss_cons (ps_for PassesOwn.never rfl (pi_listK rfl (pe_slice (r := rSlL K) sl_list (pv 3) po_none (po_some (pv 2)))) (pg_name (i := 4) sc__law_expected.nd rfl (Or.inl rfl)) (pss_cons (ps_if (pt_not (pt_val (pe_g (ok__law_may T) (hr.mono (by decide)) pass0S (pa_cons (pv 0) pa_nil)))) (pss_one (ps_ret pe_bl)) pss_nil)
      (pss_one (ps_expr (pe_kBM rfl (pe_bm PySem.F.plainAttrs_list PySem.F.slot_list_append PySem.F.type_list_append mt_append (pe_dget (hu_of hr) (pv 0) pe_str (fun _ _ => rfl)) (pa_cons (pv 4) pa_nil)))))))
      (pss_one (ps_ret pe_bl))) pss_nil)
      (pss_cons (ps_if (pt_not (pt_val (pe_g (ok__law_may T) (hr.mono (by decide)) pass0S (pa_cons (pv 0) pa_nil)))) (pss_one (ps_ret pe_bl)) pss_nil)
      (C8.pss_cut (ps_if (pt_cmpR op_eq (pv 1) pe_int (nomark _)) (pss_one (ps_expr (pe_kBM rfl (pe_bm PySem.F.plainAttrs_list PySem.F.slot_list_append PySem.F.type_list_append mt_append (pe_dget (hu_of hr) (pv 0) pe_str (fun _ _ => rfl)) (pa_cons (pe_tup (pa_cons (pv 2) (pa_cons (pe_callTy (r := rLstQ K) c_list (by rfl) T.z_list (by decide +kernel) (pa_cons (pv 3) pa_nil)) pa_nil))) pa_nil))))) pss_nil)
      (C8.pss_cut (ps_if (pt_cmpR op_eq (pv 1) pe_int (nomark _)) (pss_cons (ps_for PassesOwn.never rfl (pi_listK rfl (pe_dget (hu_of hr) (pv 0) pe_str (fun _ _ => rfl))) (pg_kT rfl (pg_tup (n := 2) rfl (pgs_cons (pg_name (i := 5) sc__law_expected.nd rfl (Or.inl rfl)) (pgs_cons (pg_name (i := 6) sc__law_expected.nd rfl (Or.inl rfl)) pgs_nil)))) (pss_one (ps_dput (hu_of hr) (pe_dget (hu_of hr) (pv 0) pe_str (fun _ _ => rfl)) (pv 5) (pv 6) rfl)))
      (pss_one (ps_dput (hu_of hr) (pv 0) pe_str (pe_lst pa_nil) rfl))) pss_nil)
      (C8.pss_cut (ps_if (pt_cmpR op_eq (pv 1) pe_int (nomark _)) (pss_one (ps_expr (pe_kBM rfl (pe_bm PySem.F.plainAttrs_list PySem.F.slot_list_append PySem.F.type_list_append mt_append (pe_dget (hu_of hr) (pv 0) pe_str (fun _ _ => rfl)) (pa_cons (pe_un un_neg pe_int) pa_nil))))) pss_nil)
      (C8.pss_cut (ps_if (pt_cmpR op_eq (pv 1) pe_int (nomark _)) (pss_cons (ps_dput (hu_of hr) (pv 0) pe_str (pe_g (ok__law_log T) (hr.mono (by decide)) pass0S (pa_cons (pv 0) pa_nil)) rfl)
      (pss_one (ps_dput (hu_of hr) (pv 0) pe_str (pe_lst pa_nil) rfl))) pss_nil)
      (pss_one (ps_ret pe_bl)))))))), ?_⟩
    walk_at "cx"
    walk_at "rd"
    have no : ∀ {fn : DevS → DevS}, dOp k n ds d = pw d fn → can d = false → Q (.bl false) H := fun e hc => by
      have z := q H O0 (by rw [e]; unfold pw; rw [if_neg (by rw [hc]; exact Bool.false_ne_true)]; exact hD) (Stp.refl _ _)
      rw [e] at z; unfold pw at z; rw [if_neg (by rw [hc]; exact Bool.false_ne_true)] at z
      exact z
    have yes : ∀ {fn : DevS → DevS} {H' : Hp} {kvs' : List (Key × V)} {ws' : List V} {b2' b3' b4' : Addr}, dOp k n ds d = pw d fn → can d = true → ModA O H' m b1 b2' b3' b4' kvs' ws' (fn { d with done := d.done + 1 }) → Kp (DevG m b1 b2 b4) H H' → Q (.bl true) H' := fun {fn H' kvs' ws' b2' b3' b4'} e hc D' kk => by
      have z := q H' _ (by rw [e]; unfold pw; rw [if_pos hc]; exact D'.clo eO) (Stp.nO kk og)
      rw [e] at z; unfold pw at z; rw [if_pos hc] at z
      exact z
    have pos1 : Pos { d with done := d.done + 1 } := ⟨pos.1, by have := pos.2.1; show 0 ≤ d.done + 1; omega, pos.2.2⟩
    have sm1 : Sml { d with done := d.done + 1 } := sm
    have := sm.1
    have := sm.2.1
    have := sm.2.2.1
    rcases hk with rfl | rfl | rfl | rfl | rfl
    · refine if_df (by decide) ?_
      walk_at "rd"
      refine ⟨O, m, b1, b2, b3, b4, kvs, ws, d, rfl, D, pos, fun hc H1 D1 k1 => ?_, fun hc => ?_⟩
      · have ho1 := D1.o
        have hw1 := D1.wr
        walk_at "rd"
        refine x_cutn ?_
        walk_at "rd"
        refine if_dt rfl ?_
        walk_at "rd"
        refine x_lstL (k1.sqL hl fun z => nl (og _ (.inl z))) fun l2 H2 hl2 k2 e2 => ?_
        walk_at "rd"
        refine x_newT fun t H3 ht k3 e3 => ?_
        have D3 := (D1.same k2).same k3
        have nl2 := D1.fresh hl2
        have ho3 := D3.o
        have hw3 := D3.wr
        walk_at "rd"
        refine x_app hw3 (by omega) fun H4 e4 k4 => ?_
        have f1 : H l2 = none := k1.free hl2 fun z => nl2 (.inl z)
        have D4 := D3.nw (ds := ds) e3 ⟨k3.get e2 id, fr f1, nl2⟩ k4 e4
        refine x_cutn ?_
        walk_at "rd"
        refine if_df (by decide) ?_
        refine x_cutn ?_
        walk_at "rd"
        refine if_df (by decide) ?_
        refine x_cutn ?_
        walk_at "rd"
        refine if_df (by decide) ?_
        walk_at "rd"
        exact yes (fn := fun d => { d with writes := d.writes ++ [(n, ds)] }) rfl hc D4 (((k1.mono F1.g).trans (k2.trans k3 fun _ z => z.elim) fun _ z => z.elim).trans k4 fun x z => .inl (.inr (.inr (.inl z))))
      · walk_at "rd"
        exact no (fn := fun d => { d with writes := d.writes ++ [(n, ds)] }) rfl hc
    · refine if_df (by decide) ?_
      walk_at "rd"
      refine ⟨O, m, b1, b2, b3, b4, kvs, ws, d, rfl, D, pos, fun hc H1 D1 k1 => ?_, fun hc => ?_⟩
      · have ho1 := D1.o
        have hw1 := D1.wr
        walk_at "rd"
        refine x_cutn ?_
        walk_at "rd"
        refine if_df (by decide) ?_
        refine x_cutn ?_
        walk_at "rd"
        refine if_dt rfl ?_
        walk_at "rd"
        refine wfor Wk.list (fun i σ H' => ∃ kvs' u v, σ = [some (.ref m), some (.int 1), some (.int n), some (.ref l), none, u, v] ∧ ModA O H' m b1 b2 b3 b4 kvs' ws { d with pages := (d.writes.take i).foldl (fun l q => aput l q.1 q.2) d.pages, done := d.done + 1 } ∧ Kp (DevG m b1 b2 b4) H H')
          ⟨kvs, none, none, rfl, D1, k1.mono F1.g⟩ (fun i σ H' ⟨_, _, _, _, D', _⟩ => SqL.of D'.wr) ?_ ?_
        · rintro i x σ H2 ex ⟨kvs', u, v, rfl, D2, kk⟩
          obtain ⟨q, eq, t, a, rfl, ht, hi⟩ := pget D2.wp ex
          have ho2 := D2.o
          have hp2 := D2.pg
          have eq' : d.writes[i]? = some q := eq
          have hl : kvs'.length = ((d.writes.take i).foldl (fun l q => aput l q.1 q.2) d.pages).length := D2.pr.length
          have hl2 := puts_len (d.writes.take i) d.pages
          have hl3 : (d.writes.take i).length ≤ d.writes.length := by rw [List.length_take]; omega
          walk_at "rd"
          refine x_dpI hp2 (by omega) fun H3 hp3 k3 => ?_
          refine ⟨putK kvs' (.inl q.1) (.ref a), _, _, rfl, ?_, kk.trans k3 fun x z => .inl (.inr (.inl z))⟩
          have e : (d.writes.take (i + 1)).foldl (fun l q => aput l q.1 q.2) d.pages = aput ((d.writes.take i).foldl (fun l q => aput l q.1 q.2) d.pages) q.1 q.2 := by
            rw [List.take_succ, eq', List.foldl_append]; rfl
          rw [e]
          exact D2.put hi k3 hp3
        · rintro σ H2 ⟨kvs', u, v, rfl, D2, kk⟩
          rw [lw, List.take_length] at D2
          have ho2 := D2.o
          walk_at "rd"
          refine x_newL fun b H3 hb k3 hb3 => ?_
          have D3 := D2.same k3
          have ho3 := D3.o
          have nb := D2.fresh hb
          have nbm : b ≠ m := fun z => nb (.inl z)
          walk_at "rd"
          intro H4 p4 k4
          have kf : Kp (F1 m) H2 H4 := (k3.mono fun _ z => z.elim).trans k4 fun _ z => .inl z
          have D4 := D2.newW hb kf p4 (k4.get hb3 nbm) (fr (kk.free hb nb))
          refine x_cutn ?_
          walk_at "rd"
          refine if_df (by decide) ?_
          refine x_cutn ?_
          walk_at "rd"
          refine if_df (by decide) ?_
          walk_at "rd"
          exact yes (fn := fun d => { d with pages := d.writes.foldl (fun l q => aput l q.1 q.2) d.pages, writes := [] }) rfl hc D4 (kk.trans kf fun _ z => .inl (.inl z))
      · walk_at "rd"
        exact no (fn := fun d => { d with pages := d.writes.foldl (fun l q => aput l q.1 q.2) d.pages, writes := [] }) rfl hc
    · refine if_dt rfl ?_
      walk_at "rd"
      refine x_slL hl fun l2 H1 hl2 k1 e1 => ?_
      rw [cut_to' hn] at e1
      generalize hbs : ds.take n.toNat = bs at e1
      have lbs : bs.length ≤ ds.length := by rw [← hbs, List.length_take]; omega
      have pbs : PosI bs := fun b hb => psi b (by rw [← hbs] at hb; exact List.mem_of_mem_take hb)
      have eop : dOp 2 n ds d = dApp bs d := by rw [← hbs]; rfl
      have D1 := D.same k1
      have nl2 := D.fresh hl2
      walk_at "rd"
      refine wfor Wk.list (fun i σ H' => ∃ u, σ = [some (.ref m), some (.int 2), some (.int n), some (.ref l), u, none, none] ∧ (dApp (bs.take i) d).2 = true ∧ ModA O H' m b1 b2 b3 b4 kvs ws (dApp (bs.take i) d).1 ∧ Kp (DevG m b1 b2 b4) H H' ∧ Kp (DevG m b1 b2 b4) H1 H')
        ⟨none, rfl, rfl, D1, k1.mono fun _ z => z.elim, Kp.refl _⟩ (fun i σ H' ⟨_, _, _, _, _, kk⟩ => SqL.of (kk.get e1 nl2)) ?_ ?_
      · rintro i x σ H2 ex ⟨u, rfl, hb, D2, kk, kk1⟩
        have eb : ∃ b, bs[i]? = some b ∧ x = .int b := by
          rw [List.getElem?_map] at ex
          cases q : bs[i]? with
          | none => rw [q] at ex; cases ex
          | some z => rw [q] at ex; exact ⟨z, rfl, (Option.some.inj ex).symm⟩
        obtain ⟨b, eb, rfl⟩ := eb
        have ho2 := D2.o
        have tk : bs.take (i + 1) = bs.take i ++ [b] := by rw [List.take_succ, eb]; rfl
        walk_at "rd"
        refine ⟨O, m, b1, b2, b3, b4, kvs, ws, _, rfl, D2, pos_app _ _ pos fun y hy => pbs y (List.mem_of_mem_take hy), fun hc H3 D3 k3 => ?_, fun hc => ?_⟩
        · have ho3 := D3.o
          have hs3 := D3.st
          walk_at "rd"
          refine x_app hs3 (by
            have h1 := dApp_steps (bs.take i) d
            have h2 : (bs.take i).length ≤ bs.length := by rw [List.length_take]; omega
            rw [List.length_map]
            show (dApp (bs.take i) d).1.steps.length < 16777216
            omega) fun H4 h4 k4 => ?_
          have e := dApp_app (bs.take i) d b hb
          rw [tk, e]
          have D4 := D3.byte (q := some b) k4 h4
          have kz : Kp (DevG m b1 b2 b4) H2 H4 := (k3.mono F1.g).trans k4 fun x z => .inl (.inr (.inr (.inr z)))
          refine ⟨_, rfl, ?_, ?_, kk.trans kz fun _ z => .inl z, kk1.trans kz fun _ z => .inl z⟩
          · unfold dByte pw; rw [if_pos hc]
          · unfold dByte pw; rw [if_pos hc]; exact D4
        · have e : dApp bs d = ((dApp (bs.take i) d).1, false) := by
            have q := dApp_stop (bs.take i) (bs.drop (i + 1)) d b hb hc
            have hi : i < bs.length := (List.getElem?_eq_some_iff.mp eb).1
            have hbi : bs[i] = b := (List.getElem?_eq_some_iff.mp eb).2
            rw [← hbi, ← List.drop_eq_getElem_cons hi, List.take_append_drop] at q
            exact q
          walk_at "rd"
          have q := q H2 _ (by rw [eop, e]; exact D2.clo eO) (Stp.nO kk og)
          rw [eop, e] at q
          exact q
      · rintro σ H2 ⟨u, rfl, hb, D2, kk, kk1⟩
        rw [List.length_map, List.take_length] at hb D2
        walk_at "rd"
        have q := q H2 _ (by rw [eop]; exact D2.clo eO) (Stp.nO kk og)
        rw [eop, hb] at q
        exact q
    · refine if_df (by decide) ?_
      walk_at "rd"
      refine ⟨O, m, b1, b2, b3, b4, kvs, ws, d, rfl, D, pos, fun hc H1 D1 k1 => ?_, fun hc => ?_⟩
      · have ho1 := D1.o
        have hs1 := D1.st
        walk_at "rd"
        refine x_cutn ?_
        walk_at "rd"
        refine if_df (by decide) ?_
        refine x_cutn ?_
        walk_at "rd"
        refine if_df (by decide) ?_
        refine x_cutn ?_
        walk_at "rd"
        refine if_dt rfl ?_
        walk_at "rd"
        refine x_app hs1 (by rw [List.length_map]; show d.steps.length < _; omega) fun H4 e4 k4 => ?_
        have D4 := D1.byte (q := none) k4 e4
        refine x_cutn ?_
        walk_at "rd"
        refine if_df (by decide) ?_
        walk_at "rd"
        exact yes (fn := fun d => { d with steps := d.steps ++ [none] }) rfl hc D4 ((k1.mono F1.g).trans k4 fun x z => .inl (.inr (.inr (.inr z))))
      · walk_at "rd"
        exact no (fn := fun d => { d with steps := d.steps ++ [none] }) rfl hc
    · refine if_df (by decide) ?_
      walk_at "rd"
      refine ⟨O, m, b1, b2, b3, b4, kvs, ws, d, rfl, D, pos, fun hc H1 D1 k1 => ?_, fun hc => ?_⟩
      · have ho1 := D1.o
        walk_at "rd"
        refine x_cutn ?_
        walk_at "rd"
        refine if_df (by decide) ?_
        refine x_cutn ?_
        walk_at "rd"
        refine if_df (by decide) ?_
        refine x_cutn ?_
        walk_at "rd"
        refine if_df (by decide) ?_
        refine x_cutn ?_
        walk_at "rd"
        refine if_dt rfl ?_
        walk_at "rd"
        refine ⟨O, m, b1, b2, b3, b4, kvs, ws, _, rfl, D1, pos1, sm1, fun g H7 hg k7 hg7 => ?_⟩
        have D7 := D1.same k7
        have ho7 := D7.o
        have ng := D1.fresh hg
        have ngm : g ≠ m := fun z => ng (.inl z)
        walk_at "rd"
        intro H8 p8 k8
        have hg8 := k8.get hg7 ngm
        walk_at "rd"
        refine x_newL fun e H9 he k9 he9 => ?_
        have nem : e ≠ m := fun z => by rw [z, p8] at he; cases he
        have nge : g ≠ e := ne_of_none hg8 he
        walk_at "rd"
        intro H10 p10 k10
        have kl : Kp (F1 m) H1 H10 := (((k7.mono fun _ z => z.elim).trans k8 fun _ z => .inl z).trans k9 fun _ z => z.elim).trans k10 fun _ z => .inl z
        have he1 : H1 e = none := k7.free (k8.free he nem) id
        have D10 := D1.newL (lg := clog d) (sl := []) (n := d.done + 1) (q := d.most) he1 kl p10 (k10.get (k9.get hg8 id) ngm) (k10.get he9 nem) (by
          rintro (z | z | z | z)
          · exact ngm z
          · exact ng (.inr (.inl z))
          · exact ng (.inr (.inr (.inl z)))
          · exact nge z) (fr (k1.free hg ngm)) (fr (k1.free he1 nem))
        walk_at "rd"
        exact yes (fn := fun d => { d with log := clog d, steps := [] }) rfl hc D10 ((k1.mono F1.g).trans kl fun x z => .inl (.inl z))
      · walk_at "rd"
        exact no (fn := fun d => { d with log := clog d, steps := [] }) rfl hc
def sp__law_done (c : Cl) (K : PySem.W.Frag) : Sp := fun vs H Q _ => ∃ p O d k n l ds, vs = [.ref p, .int k, .int n, .ref l] ∧ (k = 0 ∨ k = 1 ∨ k = 2 ∨ k = 3 ∨ k = 4) ∧ 0 ≤ n ∧ DevAt c H p O d ∧ H l = some (.lst (ds.map V.int)) ∧ ¬ O l ∧ ds.length ≤ 256 ∧ Sml d ∧
  ∀ H' O', DevAt c H' p O' (dOp k n ds d).1 → Stp O O' H H' → Q (.bl (dOp k n ds d).2) H'
theorem ok__law_done (T : Txt K mg c) : GF P w K mg base CX0 3 "_law_done" (sp__law_done c K) := by
  obtain ⟨f, fd, F, gm⟩ := T.f__law_done
  refine ⟨f, fd, ["_law_device", "_law_kind", "_law_number", "_law_data"], F.ok sc__law_done ?_ (fun cdv A outer s H vs Q E hr h => ?_), gm, F.kp, (F.binds (ps := ["_law_device", "_law_kind", "_law_number", "_law_data"]) fun _ _ _ _ _ _ us hl => match us, hl with | [_, _, _, _], _ => rfl)⟩
  · rintro vs H Q E ⟨_, _, _, _, _, _, _, rfl, _⟩
    rfl
  · obtain ⟨p, O, d, k, n, l, ds, rfl, hk, hn, hD, hl, nl, hz, sm, q⟩ := h
    refine ⟨_, (pss_cons (ps_try_as (i := 4) (Wout := fun _ _ _ _ => False) rfl rfl sc__law_done.nd rfl rfl ⟨rfl, by decide, .inl T.ex_PowerCut.g⟩ takes0 (fun W pn xe tk _ => (pss_one (ps_if (pt_cmpR op_eq (pv 1) pe_int (nomark _)) (pss_one (ps_expr (pe_gm T.cl_Device (ok_Device_write_page T) (pv 0) (hr.mono (by decide)) (fun σ => passAt tk σ) (pa_cons (pv 2) (pa_cons (pv 3) pa_nil))))) (pss_one (ps_if (pt_cmpR op_eq (pv 1) pe_int (nomark _)) (pss_one (ps_expr (pe_gm0 T.cl_Device (ok_Device_sync_pages T) (pv 0) (hr.mono (by decide)) (fun σ => passAt tk σ)))) (pss_one (ps_if (pt_cmpR op_eq (pv 1) pe_int (nomark _)) (pss_one (ps_expr (pe_gm T.cl_Device (ok_Device_append T) (pv 0) (hr.mono (by decide)) (fun σ => passAt tk σ) (pa_cons (pe_slice (r := rSlL K) sl_list (pv 3) po_none (po_some (pv 2))) pa_nil)))) (pss_one (ps_if (pt_cmpR op_eq (pv 1) pe_int (nomark _)) (pss_one (ps_expr (pe_gm0 T.cl_Device (ok_Device_clear T) (pv 0) (hr.mono (by decide)) (fun σ => passAt tk σ)))) (pss_one (ps_expr (pe_gm0 T.cl_Device (ok_Device_sync_log T) (pv 0) (hr.mono (by decide)) (fun σ => passAt tk σ))))))))))))) (fun a oe cls d pn hz hf => (pss_one (ps_ret (pe_not (pe_and (pe_callB (c_isE T.ec_PowerCut.1 hz hf) (by rfl) T.z_isinstance (by decide +kernel) (pa_cons (pv 4) (pa_cons (pe_glob (v := .ref c.VaultError) rfl T.ex_VaultError.g rfl) pa_nil))) (pe_one (pe_callB (c_isE T.ec_PowerCut.1 hz hf) (by rfl) T.z_isinstance (by decide +kernel) (pa_cons (pv 4) (pa_cons (pe_bltn (v := .ty "ValueError") (by rfl) T.z_ValueError (by decide +kernel) rfl) pa_nil))))))))))
      (pss_one (ps_ret pe_bl))), ?_⟩
    obtain ⟨⟨dx, a1, a2, a3, a4, kvs, ws, D0⟩, _⟩ := id hD
    have ho := D0.o
    walk_at "cx"
    walk_at "rd"
    have pick : ∀ {H' : Hp} {b : Bool} {A B : Prop}, Q (.bl b) H' → (Q (.bl true) H' → A) → (Q (.bl false) H' → B) → if b = true then A else B := fun {H' b A B} z f g => by
      cases b
      · exact g z
      · exact f z
    have hex : PySem.W.exmOne K (.ref c.PowerCut) (.ref c.PowerCut) = some true := PySem.W.exm_ref T.ex_PowerCut.b T.ec_PowerCut.1.hd T.ex_PowerCut.t T.ex_PowerCut.s
    rcases hk with rfl | rfl | rfl | rfl | rfl
    · refine if_dt rfl ?_
      walk_at "rd"
      refine ⟨p, O, d, n, l, ds, rfl, hD, SqL.of hl, nl, sm, fun H' O' D' s' => pick (q H' O' D' s') (fun z => ?_) fun z => ?_⟩
      · walk_at "rd"
        exact z
      · refine ⟨true, hex, fun _ a ha => ?_, fun z => by cases z⟩
        walk_at "rd"
        refine ⟨rfl, rfl, _, _, true, rfl, fun _ r => r, T.ec_PowerCut.2.1, ?_⟩
        walk_at "rd"
        refine ⟨rfl, rfl, _, _, true, rfl, fun _ r => r, T.ec_PowerCut.2.2, ?_⟩
        walk_at "rd"
        exact z
    · refine if_df (by decide) ?_
      walk_at "rd"
      refine if_dt rfl ?_
      walk_at "rd"
      refine ⟨p, O, d, rfl, hD, sm, fun H' O' D' s' => pick (q H' O' D' s') (fun z => ?_) fun z => ?_⟩
      · walk_at "rd"
        exact z
      · refine ⟨true, hex, fun _ a ha => ?_, fun z => by cases z⟩
        walk_at "rd"
        refine ⟨rfl, rfl, _, _, true, rfl, fun _ r => r, T.ec_PowerCut.2.1, ?_⟩
        walk_at "rd"
        refine ⟨rfl, rfl, _, _, true, rfl, fun _ r => r, T.ec_PowerCut.2.2, ?_⟩
        walk_at "rd"
        exact z
    · refine if_df (by decide) ?_
      walk_at "rd"
      refine if_df (by decide) ?_
      walk_at "rd"
      refine if_dt rfl ?_
      walk_at "rd"
      refine x_slL (SqL.of hl) fun l2 H1 hl2 k1 e1 => ?_
      rw [cut_to' hn] at e1
      have hD1 := hD.same k1
      refine ⟨p, O, d, l2, ds.take n.toNat, rfl, hD1, SqL.of e1, hD.fresh hl2, sm, by rw [List.length_take]; omega, fun H' O' D' s' => pick (q H' O' D' ((Stp.pure k1).trans s')) (fun z => ?_) fun z => ?_⟩
      · walk_at "rd"
        exact z
      · refine ⟨true, hex, fun _ a ha => ?_, fun z => by cases z⟩
        walk_at "rd"
        refine ⟨rfl, rfl, _, _, true, rfl, fun _ r => r, T.ec_PowerCut.2.1, ?_⟩
        walk_at "rd"
        refine ⟨rfl, rfl, _, _, true, rfl, fun _ r => r, T.ec_PowerCut.2.2, ?_⟩
        walk_at "rd"
        exact z
    · refine if_df (by decide) ?_
      walk_at "rd"
      refine if_df (by decide) ?_
      walk_at "rd"
      refine if_df (by decide) ?_
      walk_at "rd"
      refine if_dt rfl ?_
      walk_at "rd"
      refine ⟨p, O, d, rfl, hD, sm, fun H' O' D' s' => pick (q H' O' D' s') (fun z => ?_) fun z => ?_⟩
      · walk_at "rd"
        exact z
      · refine ⟨true, hex, fun _ a ha => ?_, fun z => by cases z⟩
        walk_at "rd"
        refine ⟨rfl, rfl, _, _, true, rfl, fun _ r => r, T.ec_PowerCut.2.1, ?_⟩
        walk_at "rd"
        refine ⟨rfl, rfl, _, _, true, rfl, fun _ r => r, T.ec_PowerCut.2.2, ?_⟩
        walk_at "rd"
        exact z
    · refine if_df (by decide) ?_
      walk_at "rd"
      refine if_df (by decide) ?_
      walk_at "rd"
      refine if_df (by decide) ?_
      walk_at "rd"
      refine if_df (by decide) ?_
      walk_at "rd"
      refine ⟨p, O, d, rfl, hD, sm, fun H' O' D' s' => pick (q H' O' D' s') (fun z => ?_) fun z => ?_⟩
      · walk_at "rd"
        exact z
      · refine ⟨true, hex, fun _ a ha => ?_, fun z => by cases z⟩
        walk_at "rd"
        refine ⟨rfl, rfl, _, _, true, rfl, fun _ r => r, T.ec_PowerCut.2.1, ?_⟩
        walk_at "rd"
        refine ⟨rfl, rfl, _, _, true, rfl, fun _ r => r, T.ec_PowerCut.2.2, ?_⟩
        walk_at "rd"
        exact z
def Z6 (l : List (Int × List Int)) : Prop := ∀ q ∈ l, q.2.length = 256
theorem aput_z6 {l : List (Int × List Int)} {n : Int} {ds : List Int} (h : Z6 l) (hd : ds.length = 256) : Z6 (aput l n ds) := by
  intro q hq
  unfold aput at hq
  split at hq
  · obtain ⟨r, hr, rfl⟩ := List.mem_map.mp hq
    split
    · exact hd
    · exact h r hr
  · rcases List.mem_append.mp hq with hq | hq
    · exact h q hq
    · rw [List.mem_singleton.mp hq]; exact hd
theorem aget_z6 {l : List (Int × List Int)} {n : Int} (h : Z6 l) : ((aget l n).getD zeros).length = 256 := by
  unfold aget
  cases e : l.find? fun q => decide (q.1 = n) with
  | none => show zeros.length = 256; unfold zeros; rw [List.length_replicate]
  | some q => exact h q (List.mem_of_find?_eq_some e)
theorem puts_z6 : ∀ {ws l : List (Int × List Int)}, Z6 l → Z6 ws → Z6 (ws.foldl (fun l q => aput l q.1 q.2) l)
  | [], _, h, _ => h
  | q :: ws, l, h, hw => puts_z6 (ws := ws) (aput_z6 h (hw q (by simp))) fun r hr => hw r (List.mem_cons_of_mem _ hr)
theorem dFate_z6 {l : List (Int × List Int)} {q : (Int × List Int) × Int} (h : Z6 l) (hq : q.1.2.length = 256) : Z6 (dFate l q) := by
  unfold dFate
  split
  · exact aput_z6 h hq
  · split
    · refine aput_z6 h ?_
      have := aget_z6 (n := q.1.1) h
      rw [List.length_append, List.length_take, List.length_drop]; omega
    · exact h
theorem dFates_z6 : ∀ {ws : List ((Int × List Int) × Int)} {l : List (Int × List Int)}, Z6 l → (∀ q ∈ ws, q.1.2.length = 256) → Z6 (ws.foldl dFate l)
  | [], _, h, _ => h
  | q :: ws, l, h, hw => dFates_z6 (ws := ws) (dFate_z6 h (hw q (by simp))) fun r hr => hw r (List.mem_cons_of_mem _ hr)
theorem cpg_z6 {d : DevS} {n : Int} (h : Z6 d.pages) (g : Z6 d.writes) : (cpg d n).length = 256 := by
  unfold cpg
  cases e : d.writes.reverse.find? fun q => decide (q.1 = n) with
  | none => exact aget_z6 h
  | some q => exact g q (List.mem_reverse.mp (List.mem_of_find?_eq_some e))
def sp__law_same (c : Cl) : Sp := fun vs H Q _ => ∃ p O m O2 d, vs = [.ref p, .ref m] ∧ DevAt c H p O d ∧ ModAt H m O2 d ∧ Sml d ∧ Pos d ∧ Z6 d.pages ∧ Z6 d.writes ∧ ∀ H', Kp F0 H H' → Q (.bl true) H'
theorem ok__law_same (T : Txt K mg c) : GF P w K mg base CX0 3 "_law_same" (sp__law_same c) := by
  obtain ⟨f, fd, F, gm⟩ := T.f__law_same
  refine ⟨f, fd, ["_law_device", "_law_model"], F.ok sc__law_same ?_ (fun cdv A outer s H vs Q E hr h => ?_), gm, F.kp, (F.binds (ps := ["_law_device", "_law_model"]) fun _ _ _ _ _ _ us hl => match us, hl with | [_, _], _ => rfl)⟩
  · rintro vs H Q E ⟨_, _, _, _, _, rfl, _⟩
    rfl
  · obtain ⟨p, O, m, O2, d, rfl, hD, hM, sm, pos, z1, z2, k⟩ := h
    refine ⟨_, (pss_cons (ps_if (PW.pt (pw_or (pt_cmpR (r := rNeD K) (op_neD hr.units) (pe_gm0 T.cl_Device (ok_Device_log T) (pv 0) (hr.mono (by decide)) pass0S) (pe_g (ok__law_log T) (hr.mono (by decide)) pass0S (pa_cons (pv 1) pa_nil)) (nomark _)) (pw_or1 (pt_cmpR op_ne (pe_gm0 T.cl_Device (ok_Device_steps T) (pv 0) (hr.mono (by decide)) pass0S) (pe_dget (hu_of hr) (pv 1) pe_str (fun _ _ => rfl)) (nomark _))))) (pss_one (ps_ret pe_bl)) pss_nil)
      (pss_cons (ps_if (pt_cmpR (r := rNeD K) (op_neD hr.units) (pe_gm0 T.cl_Device (ok_Device_pending T) (pv 0) (hr.mono (by decide)) pass0S) (pe_tup (pa_cons (pe_callB (r := rLenQ K) c_len (by rfl) T.z_len PySem.boot_len (pa_cons (pe_dget (hu_of hr) (pv 1) pe_str (fun _ _ => rfl)) pa_nil)) (pa_cons (pe_callB (r := rLenQ K) c_len (by rfl) T.z_len PySem.boot_len (pa_cons (pe_dget (hu_of hr) (pv 1) pe_str (fun _ _ => rfl)) pa_nil)) pa_nil))) (nomark _)) (pss_one (ps_ret pe_bl)) pss_nil)
      (pss_cons (ps_for PassesOwn.never rfl (pi_listK rfl (pe_lst (pa_cons pe_int (pa_cons pe_int (pa_cons pe_int pa_nil))))) (pg_name (i := 2) sc__law_same.nd rfl (Or.inl rfl)) (pss_cons (ps_set (i := 3) sc__law_same.nd rfl (Or.inl rfl) (pe_gm T.cl_Device (ok_Device_page T) (pv 0) (hr.mono (by decide)) pass0S (pa_cons (pv 2) pa_nil)))
      (pss_cons (ps_if (pt_cmpR (r := rNeD K) (op_neD hr.units) (pv 3) (pe_g (ok__law_page T) (hr.mono (by decide)) pass0S (pa_cons (pv 1) (pa_cons (pv 2) pa_nil))) (nomark _)) (pss_one (ps_ret pe_bl)) pss_nil)
      (pss_one (ps_asg pe_int (pg_sub (pv 3) pe_int set_list))))))
      (pss_cons (ps_expr (pe_kBM rfl (pe_bm PySem.F.plainAttrs_list PySem.F.slot_list_append PySem.F.type_list_append mt_append (pe_gm0 T.cl_Device (ok_Device_log T) (pv 0) (hr.mono (by decide)) pass0S) (pa_cons pe_int pa_nil))))
      (pss_one (ps_ret pe_bl)))))), ?_⟩
    obtain ⟨⟨dx, a1, a2, a3, a4, kvs, ws, D0⟩, _⟩ := id hD
    obtain ⟨⟨b1, b2, b3, b4, kvs2, ws2, M0⟩, _⟩ := id hM
    have ho := D0.o
    have hm := M0.o
    have np : p ≠ m := ne_of ho hm (by intro z; cases z)
    walk_at "cx"
    walk_at "rd"
    refine ⟨p, O, d, rfl, hD, sm, fun l1 H1 hl1 k1 e1 => ?_⟩
    walk_at "rd"
    refine ⟨_, m, _, _, _, _, _, _, d, rfl, M0.same k1, pos, sm, fun l2 H2 hl2 k2 e2 => ?_⟩
    refine x_neLI (SqL.of (k2.get e1 id)) (SqL.of e2) ?_
    have k02 : Kp F0 H H2 := k1.trans k2 fun _ z => z.elim
    rw [decide_eq_true (rfl : clog d = clog d)]
    have ho2 := k02.get ho id
    have hm2 := k02.get hm id
    walk_at "rd"
    refine ⟨p, O, d, rfl, hD.same k02, ?_⟩
    walk_at "rd"
    rw [decide_eq_true (rfl : d.done = d.done)]
    walk_at "rd"
    refine ⟨p, O, d, rfl, hD.same k02, fun t H3 k3 e3 => ?_⟩
    have k03 : Kp F0 H H3 := k02.trans k3 fun _ z => z.elim
    have M3 := M0.same k03
    have hm3 := M3.o
    have hw3 := M3.wr
    have hs3 := M3.st
    walk_at "rd"
    refine x_newT fun t2 H4 ht2 k4 e4 => ?_
    refine x_neTI (ns := [(d.writes.length : Int), (d.steps.length : Int)]) (ms := [(ws2.length : Int), ((d.steps.map mV).length : Int)]) (SqT.of (k4.tup e3)) (SqT.of e4) ?_
    rw [show ws2.length = d.writes.length from M0.wp.length, List.length_map, decide_eq_true rfl]
    have k04 : Kp F0 H H4 := k03.trans k4 fun _ z => z.elim
    walk_at "rd"
    refine x_newL fun l4 H5 hl4 k5 e5 => ?_
    have k05 : Kp F0 H H5 := k04.trans k5 fun _ z => z.elim
    walk_at "rd"
    refine wfor Wk.list (fun i σ H' => ∃ u v, σ = [some (.ref p), some (.ref m), u, v] ∧ Kp F0 H H' ∧ Kp F0 H5 H')
      ⟨none, none, rfl, k05, Kp.refl _⟩ (fun i σ H' ⟨_, _, _, _, kk⟩ => SqL.of (kk.get e5 id)) ?_ ?_
    · rintro i x σ H6 ex ⟨u, v, rfl, kk, kk5⟩
      have en : ∃ n : Int, x = .int n := by
        have : x ∈ [V.int 0, .int 1, .int 7] := List.mem_of_getElem? ex
        rcases List.mem_cons.mp this with h | h
        · exact ⟨_, h⟩
        · rcases List.mem_cons.mp h with h | h
          · exact ⟨_, h⟩
          · exact ⟨_, List.mem_singleton.mp h⟩
      obtain ⟨n, rfl⟩ := en
      have ho6 := kk.get ho id
      walk_at "rd"
      refine ⟨p, O, d, n, rfl, hD.same kk, fun b H7 hb k7 e7 => ?_⟩
      walk_at "rd"
      refine ⟨_, m, _, _, _, _, _, _, d, n, rfl, (M0.same kk).same k7, fun b2 H8 k8 e8 => ?_⟩
      have e78 := k8.get e7 id
      refine x_neLI (SqL.of e78) (SqL.of e8) ?_
      rw [decide_eq_true (rfl : cpg d n = cpg d n)]
      walk_at "rd"
      refine x_setL e78 (ix_ok (n := (List.map V.int (cpg d n)).length) (j := 0) (by rw [List.length_map, cpg_z6 z1 z2]; decide)) ?_
      have kz : Kp F0 H6 (upd H8 b (.lst (((cpg d n).map V.int).set 0 (.int 300)))) := (k7.trans k8 fun _ z => z.elim).trans (Kp.put e78 id) fun x z => .inr (by rw [z]; exact hb)
      exact ⟨_, _, rfl, kk.trans kz fun _ z => z.elim, kk5.trans kz fun _ z => z.elim⟩
    · rintro σ H6 ⟨u, v, rfl, kk, kk5⟩
      have ho6 := kk.get ho id
      walk_at "rd"
      refine ⟨p, O, d, rfl, hD.same kk, sm, fun b H7 hb k7 e7 => ?_⟩
      walk_at "rd"
      refine x_app e7 (by
        rw [List.length_map]
        have := lsteps_len d.steps d.log
        have := sm.2.2.1
        show (d.steps.foldl lstep d.log).length < _
        omega) fun H8 e8 k8 => ?_
      walk_at "rd"
      exact k H8 ((kk.trans k7 fun _ z => z.elim).trans k8 fun x z => .inr (by rw [z]; exact kk.free hb id))
structure I6 (i : Nat) (d : DevS) : Prop where
  a : d.pages.length + d.writes.length ≤ i
  b : d.log.length + d.steps.length ≤ 256 * i
  p : Z6 d.pages
  w : Z6 d.writes
  s : Pos d
theorem I6.sml {i : Nat} {d : DevS} (h : I6 i d) (hi : i ≤ 1000) : Sml d := by
  have := h.a; have := h.b
  exact ⟨by omega, by omega, by omega, fun q hq => Nat.le_of_eq (h.p q hq), fun q hq => Nat.le_of_eq (h.w q hq)⟩
theorem I6.up {i : Nat} {d : DevS} (h : I6 i d) : I6 (i + 1) d := ⟨by have := h.a; omega, by have := h.b; omega, h.p, h.w, h.s⟩
theorem I6.done {i : Nat} {d : DevS} (h : I6 i d) : I6 i { d with done := d.done + 1 } := ⟨h.a, h.b, h.p, h.w, h.s.1, by have := h.s.2.1; show 0 ≤ d.done + 1; omega, h.s.2.2⟩
theorem I6.pw {i : Nat} {d : DevS} {f : DevS → DevS} (h : I6 i d) (hf : ∀ d, I6 i d → I6 (i + 1) (f d)) : I6 (i + 1) (pw d f).1 := by
  unfold NV.pw
  split
  · exact hf _ h.done
  · exact h.up
theorem dApp_same : ∀ (bs : List Int) (d : DevS), (dApp bs d).1.pages = d.pages ∧ (dApp bs d).1.writes = d.writes ∧ (dApp bs d).1.log = d.log
  | [], _ => ⟨rfl, rfl, rfl⟩
  | b :: bs, d => by
    show (if (dByte (some b) d).2 = true then dApp bs (dByte (some b) d).1 else (d, false)).1.pages = d.pages ∧ (if (dByte (some b) d).2 = true then dApp bs (dByte (some b) d).1 else (d, false)).1.writes = d.writes ∧ (if (dByte (some b) d).2 = true then dApp bs (dByte (some b) d).1 else (d, false)).1.log = d.log
    have h := dApp_same bs (dByte (some b) d).1
    have h2 : (dByte (some b) d).1.pages = d.pages ∧ (dByte (some b) d).1.writes = d.writes ∧ (dByte (some b) d).1.log = d.log := by
      unfold dByte pw; split <;> exact ⟨rfl, rfl, rfl⟩
    split
    · exact ⟨h.1.trans h2.1, h.2.1.trans h2.2.1, h.2.2.trans h2.2.2⟩
    · exact ⟨rfl, rfl, rfl⟩
theorem I6.op {i : Nat} {d : DevS} {k n : Int} {ds : List Int} (h : I6 i d) (hl : ds.length = 256) (hp : PosI ds) : I6 (i + 1) (dOp k n ds d).1 := by
  unfold dOp
  split
  · exact h.pw fun d h => ⟨by have := h.a; show d.pages.length + (d.writes ++ [(n, ds)]).length ≤ i + 1; rw [List.length_append, List.length_singleton]; omega, h.up.b, h.p, fun q hq => by
      rcases List.mem_append.mp hq with hq | hq
      · exact h.w q hq
      · rw [List.mem_singleton.mp hq]; exact hl, h.s⟩
  · split
    · exact h.pw fun d h => ⟨by have := h.a; have := puts_len d.writes d.pages; show (d.writes.foldl (fun l q => aput l q.1 q.2) d.pages).length + 0 ≤ i + 1; omega, h.up.b, puts_z6 h.p h.w, fun q hq => (by cases hq), h.s⟩
    · split
      · have e := dApp_same (ds.take n.toNat) d
        have e2 := dApp_steps (ds.take n.toNat) d
        refine ⟨by rw [e.1, e.2.1]; exact h.up.a, ?_, by rw [e.1]; exact h.p, by rw [e.2.1]; exact h.w, pos_app _ _ h.s fun b hb => hp b (List.mem_of_mem_take hb)⟩
        rw [e.2.2]
        rw [List.length_take] at e2
        have := h.b
        omega
      · split
        · refine h.pw fun d h => ⟨h.up.a, by have := h.b; show d.log.length + (d.steps ++ [none]).length ≤ 256 * (i + 1); rw [List.length_append, List.length_singleton]; omega, h.p, h.w, ⟨fun b hb => ?_, h.s.2⟩⟩
          rcases List.mem_append.mp hb with hb | hb
          · exact h.s.1 b hb
          · cases List.mem_singleton.mp hb
        · exact h.pw fun d h => ⟨h.up.a, by have := h.b; have := lsteps_len d.steps d.log; show (d.steps.foldl lstep d.log).length + 0 ≤ 256 * (i + 1); omega, h.p, h.w, ⟨fun b hb => (by cases hb), h.s.2⟩⟩
theorem I6.crash {i : Nat} {d : DevS} {fs : List Int} {k : Nat} (h : I6 i d) : I6 (i + 1) (dCrash fs k d) := by
  have h1 := dFates_len (d.writes.zip fs) d.pages
  have h2 : (d.writes.zip fs).length ≤ d.writes.length := by rw [List.length_zip]; omega
  have h3 := lsteps_len (d.steps.take k) d.log
  have h4 : (d.steps.take k).length ≤ d.steps.length := by rw [List.length_take]; omega
  have := h.a; have := h.b
  exact ⟨by show ((d.writes.zip fs).foldl dFate d.pages).length + 0 ≤ i + 1; omega, by show ((d.steps.take k).foldl lstep d.log).length + 0 ≤ 256 * (i + 1); omega, dFates_z6 h.p fun q hq => h.w q.1 (List.of_mem_zip hq).1, fun q hq => (by cases hq), ⟨fun b hb => (by cases hb), h.s.2.1, fun m hm => (by cases hm)⟩⟩
theorem I6.limit {i : Nat} {d : DevS} {s : Option Int} (h : I6 i d) (hs : ∀ m, s = some m → 0 ≤ m) : I6 (i + 1) (dLimit s d) :=
  ⟨h.up.a, h.up.b, h.p, h.w, h.s.1, h.s.2.1, fun m hm => by
    cases s with
    | none => cases hm
    | some z => cases hm; have := hs z rfl; have := h.s.2.1; show 0 ≤ d.done + z; omega⟩
/-- owned sets stay apart -/
theorem Stp.dj {O O' G : Addr → Prop} {H H' : Hp} (s : Stp O O' H H') (t : ∀ b, G b → ∃ o, H b = some o) (h : ∀ b, O b → ¬ G b) : ∀ b, O' b → ¬ G b := fun b o g => by
  rcases s.gr b o with z | z
  · exact h b z g
  · obtain ⟨u, hu⟩ := t b g
    rw [z] at hu; cases hu
/-- what stands between two turns -/
structure LW (c : Cl) (K : PySem.W.Frag) (H : Hp) (st sc p m : Addr) (O O2 : Addr → Prop) (d : DevS) : Prop where
  dr : Dr K H st sc
  dv : DevAt c H p O d
  md : ModAt H m O2 d
  dj : ∀ b, O b → ¬ O2 b
  n1 : ¬ O st
  n2 : ¬ O2 st
theorem LW.off {F : Addr → Prop} {H H' : Hp} {st sc p m : Addr} {O O2 : Addr → Prop} {d : DevS} (h : LW c K H st sc p m O O2 d) (k : Kp F H H') (f1 : ∀ b, F b → ¬ O b) (f2 : ∀ b, F b → ¬ O2 b) (dr : Dr K H' st sc) : LW c K H' st sc p m O O2 d :=
  ⟨dr, h.dv.off k f1, h.md.off k f2, h.dj, h.n1, h.n2⟩
theorem LW.pure {H H' : Hp} {st sc p m : Addr} {O O2 : Addr → Prop} {d : DevS} (h : LW c K H st sc p m O O2 d) (k : Kp F0 H H') : LW c K H' st sc p m O O2 d := h.off k (fun _ z => z.elim) (fun _ z => z.elim) (h.dr.kp k id)
theorem LW.draw {H H' : Hp} {st sc p m : Addr} {O O2 : Addr → Prop} {d : DevS} (h : LW c K H st sc p m O O2 d) (k : Kp (F1 st) H H') (dr : Dr K H' st sc) : LW c K H' st sc p m O O2 d := h.off k (fun _ z => by rw [z]; exact h.n1) (fun _ z => by rw [z]; exact h.n2) dr
theorem Dr.trk {H : Hp} {st sc : Addr} (h : Dr K H st sc) : ∃ o, H st = some o := by
  obtain ⟨_, _, _, _, _, e, _⟩ := h
  exact ⟨_, e⟩
theorem ModAt.fresh {H : Hp} {m b : Addr} {O : Addr → Prop} {d : DevS} (h : ModAt H m O d) (hb : H b = none) : ¬ O b := fun z => by
  obtain ⟨o, ho⟩ := h.2 b z
  rw [hb] at ho; cases ho
/-- the device steps, the model steps -/
theorem LW.dev {H H' : Hp} {st sc p m : Addr} {O O' O2 : Addr → Prop} {d d' : DevS} (h : LW c K H st sc p m O O2 d) (s : Stp O O' H H') : Dr K H' st sc ∧ ModAt H' m O2 d ∧ (∀ b, O' b → ¬ O2 b) ∧ ¬ O' st := by
  obtain ⟨o, ho⟩ := h.dr.trk
  exact ⟨h.dr.kp s.kp h.n1, h.md.off s.kp h.dj, s.dj h.md.2 h.dj, s.kp0 ho h.n1⟩
theorem ModAt.most {H H' : Hp} {m : Addr} {O : Addr → Prop} {d : DevS} {q : Option Int} {a1 a2 a3 a4 : V} (h : ModAt H m O d) (e : H m = some (.dK (RD_model a1 a2 a3 a4 (.int d.done) (.int (mo d.most))))) (k : Kp (F1 m) H H') (o : H' m = some (.dK (RD_model a1 a2 a3 a4 (.int d.done) (.int (mo q))))) : ∃ O', ModAt H' m O' { d with most := q } ∧ Stp O O' H H' := by
  obtain ⟨O1, b1, b2, b3, b4, kvs, ws, eO, D, og⟩ := h.opn
  have z := D.o
  rw [e] at z
  have := Option.some.inj z
  unfold RD_model at this
  simp only [HO.dK.injEq, List.cons.injEq, Prod.mk.injEq, true_and, and_true] at this
  obtain ⟨rfl, rfl, rfl, rfl⟩ := this
  have D' := D.mk' (n := d.done) (q := q) k o
  exact ⟨_, D'.clo eO, Stp.nO (G := DevG m b1 b2 b4) (k.mono fun _ z => .inl (.inl z)) og⟩
theorem ok_law {f : Addr} {fd : FuncData} (F : Fun K "law" "law" s_law f fd) (T : Txt K mg c) : FnOk P w K mg base CX0 4 f fd ["_law_script"] (sp_law K) := by
  refine F.ok sc_law ?_ (fun cdv A outer s H vs Q E hr h => ?_)
  · rintro vs H Q E ⟨_, _, rfl, _⟩
    rfl
  · obtain ⟨sc, ns, rfl, hsc, hlen, k⟩ := h
    refine ⟨_, (pss_cons (ps_set (i := 1) sc_law.nd rfl (Or.inr rfl) (pe_lst (pa_cons pe_int (pa_cons pe_int pa_nil))))
      (pss_cons (ps_set (i := 2) sc_law.nd rfl (Or.inl rfl) (pe_gc0 (mk_Device T) (hr.mono (by decide)) pass0S))
      (pss_cons (ps_set (i := 3) sc_law.nd rfl (Or.inl rfl) (pe_g0 (ok__law_new T) (hr.mono (by decide)) pass0S))
      (pss_cons (ps_for PassesOwn.never rfl (pi_range1 (by rfl) T.z_range (pa_cons (pe_g (ok__law_draw T) (hr.mono (by decide)) pass0S (pa_cons (pv 1) (pa_cons (pv 0) (pa_cons pe_int pa_nil)))) pa_nil)) (pg_name (i := 4) sc_law.nd rfl (Or.inl rfl)) (pss_cons (ps_set (i := 5) sc_law.nd rfl (Or.inl rfl) (pe_g (ok__law_draw T) (hr.mono (by decide)) pass0S (pa_cons (pv 1) (pa_cons (pv 0) (pa_cons pe_int pa_nil)))))
      (pss_cons (ps_set (i := 6) sc_law.nd rfl (Or.inl rfl) (pe_ix (r := rIxL K) ix_list (pe_lst (pa_cons pe_int (pa_cons pe_int (pa_cons pe_int pa_nil)))) (pe_g (ok__law_draw T) (hr.mono (by decide)) pass0S (pa_cons (pv 1) (pa_cons (pv 0) (pa_cons pe_int pa_nil)))) (fun _ _ => rfl)))
      (pss_cons (ps_set (i := 7) sc_law.nd rfl (Or.inl rfl) (pe_op op_cat (pe_op op_rep (pe_lst (pa_cons (pe_g (ok__law_draw T) (hr.mono (by decide)) pass0S (pa_cons (pv 1) (pa_cons (pv 0) (pa_cons pe_int pa_nil)))) pa_nil)) pe_int) (pe_op op_rep (pe_lst (pa_cons (pe_g (ok__law_draw T) (hr.mono (by decide)) pass0S (pa_cons (pv 1) (pa_cons (pv 0) (pa_cons pe_int pa_nil)))) pa_nil)) pe_int)))
      (C8.pss_cut (ps_if (pt_cmpR op_eq (pv 5) pe_int (nomark _)) (pss_one (ps_set (i := 6) sc_law.nd rfl (Or.inl rfl) (pe_ix (r := rIxL K) ix_list (pe_lst (pa_cons pe_int (pa_cons pe_int (pa_cons pe_int (pa_cons pe_int pa_nil))))) (pe_g (ok__law_draw T) (hr.mono (by decide)) pass0S (pa_cons (pv 1) (pa_cons (pv 0) (pa_cons pe_int pa_nil)))) (fun _ _ => rfl)))) pss_nil)
      (C8.pss_cut (ps_if (pt_cmpR op_lt (pv 5) pe_int (nomark _)) (pss_cons (ps_set (i := 8) sc_law.nd rfl (Or.inl rfl) (pe_g (ok__law_expected T) (hr.mono (by decide)) pass0S (pa_cons (pv 3) (pa_cons (pv 5) (pa_cons (pv 6) (pa_cons (pv 7) pa_nil))))))
      (pss_cons (ps_if (pt_cmpR op_ne (pe_g (ok__law_done T) (hr.mono (by decide)) pass0S (pa_cons (pv 2) (pa_cons (pv 5) (pa_cons (pv 6) (pa_cons (pv 7) pa_nil))))) (pv 8) (nomark _)) (pss_one (ps_ret pe_bl)) pss_nil)
      (pss_one (ps_asg pe_int (pg_sub (pv 7) pe_int set_list))))) (pss_one (ps_if (pt_cmpR op_eq (pv 5) pe_int (nomark _)) (pss_cons (ps_set (i := 9) sc_law.nd rfl (Or.inl rfl) (pe_ix (r := rIxL K) ix_list (pe_lst (pa_cons (pe_g (ok__law_draw T) (hr.mono (by decide)) pass0S (pa_cons (pv 1) (pa_cons (pv 0) (pa_cons pe_int pa_nil)))) (pa_cons (pe_g (ok__law_draw T) (hr.mono (by decide)) pass0S (pa_cons (pv 1) (pa_cons (pv 0) (pa_cons pe_int pa_nil)))) pa_nil))) (pe_g (ok__law_draw T) (hr.mono (by decide)) pass0S (pa_cons (pv 1) (pa_cons (pv 0) (pa_cons pe_int pa_nil)))) (fun _ _ => rfl)))
      (pss_cons (ps_expr (pe_gm T.cl_Device (ok_Device_limit T) (pv 2) (hr.mono (by decide)) pass0S (pa_cons (pv 9) pa_nil)))
      (pss_one (ps_dput (hu_of hr) (pv 3) pe_str (pe_op op_add (pe_dget (hu_of hr) (pv 3) pe_str (fun _ _ => rfl)) (pv 9)) rfl)))) (pss_one (ps_if (pt_cmpR op_eq (pv 5) pe_int (nomark _)) (pss_cons (ps_expr (pe_gm T.cl_Device (ok_Device_limit T) (pv 2) (hr.mono (by decide)) pass0S (pa_cons pe_non pa_nil)))
      (pss_one (ps_dput (hu_of hr) (pv 3) pe_str (pe_un un_neg pe_int) rfl))) (pss_cons (ps_setLc (i := 10) (own := [("_law_k", 12)]) (g := (gName 12)) (tt := tYes) rfl sc_law.nd rfl rfl (sw_true rfl rfl rfl (by decide +kernel)) (pi_range1 (by rfl) T.z_range (pa_cons (pe_g (ok__law_draw T) (hr.mono (by decide)) pass0S (pa_cons (pv 1) (pa_cons (pv 0) (pa_cons pe_int pa_nil)))) pa_nil)) (blkOk_by (N := ["_law_script", "_law_state", "_law_device", "_law_model", "_law_turn", "_law_kind", "_law_number", "_law_data", "_law_due", "_law_steps", "_law_fates", "_law_kept", "_law_k"]) (sc := defScope s_law) (by decide +kernel)) (fun _ _ _ _ _ => (pg_name (i := 12) sc_law.nd rfl (Or.inl rfl))) (fun _ _ _ _ _ => pts_nil) (fun _ _ _ _ _ => (pe_g (ok__law_draw T) (hr.mono (by decide)) pass0S (pa_cons (pv 1) (pa_cons (pv 0) (pa_cons pe_int pa_nil))))))
      (pss_cons (ps_set (i := 11) sc_law.nd rfl (Or.inl rfl) (pe_ix (r := rIxL K) ix_list (pe_lst (pa_cons (pe_g (ok__law_draw T) (hr.mono (by decide)) pass0S (pa_cons (pv 1) (pa_cons (pv 0) (pa_cons pe_int pa_nil)))) (pa_cons (pe_g (ok__law_draw T) (hr.mono (by decide)) pass0S (pa_cons (pv 1) (pa_cons (pv 0) (pa_cons pe_int pa_nil)))) pa_nil))) (pe_g (ok__law_draw T) (hr.mono (by decide)) pass0S (pa_cons (pv 1) (pa_cons (pv 0) (pa_cons pe_int pa_nil)))) (fun _ _ => rfl)))
      (pss_cons (ps_expr (pe_gm T.cl_Device (ok_Device_crash T) (pv 2) (hr.mono (by decide)) pass0S (pa_cons (pe_callTy (r := rLstQ K) c_list (by rfl) T.z_list (by decide +kernel) (pa_cons (pv 10) pa_nil)) (pa_cons (pv 11) pa_nil))))
      (pss_one (ps_expr (pe_g (ok__law_crash T) (hr.mono (by decide)) pass0S (pa_cons (pv 3) (pa_cons (pv 10) (pa_cons (pv 11) pa_nil))))))))))))))
      (pss_one (ps_if (pt_not (pt_val (pe_g (ok__law_same T) (hr.mono (by decide)) pass0S (pa_cons (pv 2) (pa_cons (pv 3) pa_nil))))) (pss_one (ps_ret pe_bl)) pss_nil))))))))
      (pss_one (ps_ret pe_bl)))))), ?_⟩
    walk_at "cx"
    walk_at "rd"
    refine x_newL fun st H1 hst k1 e1 => ?_
    have dr1 : Dr K H1 st sc := ⟨0, 0, ns, by decide, by decide, e1, hlen, hsc.kp k1⟩
    walk_at "rd"
    intro p dx hp hdx nd
    have km : Kp F0 H1 (upd (upd H1 dx (.own p)) p (.ins c.Device dx [])) := (Kp.new hdx).trans (Kp.new (by rw [upd_ne nd.symm]; exact hp)) fun _ z => z.elim
    refine ⟨p, dx, rfl, upd_same, fun H2 O hD2 k2 o2 => ⟨rfl, ?_⟩⟩
    have nsp : st ≠ p := ne_of_none e1 hp
    have k12 : Kp F0 H1 H2 := km.trans k2 fun x z => .inr (by rw [z]; exact hp)
    walk_at "rd"
    refine ⟨rfl, fun m H3 O2 hM3 k3 o3 => ?_⟩
    have n1 : ¬ O st := fun z => by
      rcases o2 st z with e | e
      · exact nsp e
      · rw [km.get e1 id] at e; cases e
    have n2 : ¬ O2 st := fun z => by
      have := o3 st z
      rw [k12.get e1 id] at this; cases this
    have L3 : LW c K H3 st sc p m O O2 d0 := ⟨dr1.kp (k12.trans k3 fun _ z => z.elim) id, hD2.same k3, hM3, fun b z y => by
      obtain ⟨o, ho⟩ := hD2.2 b z
      rw [o3 b y] at ho; (cases ho), n1, n2⟩
    walk_at "rd"
    refine ⟨st, sc, 25, rfl, by decide, by decide, L3.dr, fun dm H4 m0 m1 dr4 k4 => ?_⟩
    have L4 := L3.draw k4 dr4
    walk_at "rd"
    refine wfor Wk.rng (fun i σ H' => ∃ u4 u5 u6 u7 u8 u9 u10 u11 O O2 d, σ = [some (.ref sc), some (.ref st), some (.ref p), some (.ref m), u4, u5, u6, u7, u8, u9, u10, u11, none] ∧ LW c K H' st sc p m O O2 d ∧ I6 i d)
      ⟨none, none, none, none, none, none, none, none, O, O2, d0, rfl, L4, ⟨Nat.le_refl _, Nat.le_refl _, fun q z => (by cases z), fun q z => (by cases z), fun b z => (by cases z), Int.le_refl _, fun m z => (by cases z)⟩⟩ (fun _ _ _ _ => trivial) ?_ ?_
    · rintro i x σ H5 ex ⟨u4, u5, u6, u7, u8, u9, u10, u11, O, O2, d, rfl, L5, i6⟩
      obtain ⟨hi, rfl⟩ := rgl_at ex
      have hi9 : i ≤ 1000 := by omega
      have sm := i6.sml hi9
      walk_at "rd"
      refine ⟨st, sc, 8, rfl, by decide, by decide, L5.dr, fun kd H6 a60 a61 dr6 k6 => ?_⟩
      have L6 := L5.draw k6 dr6
      walk_at "rd"
      refine x_newL fun nl H7 hnl k7 e7 => ?_
      have L7 := L6.pure k7
      walk_at "rd"
      refine ⟨st, sc, 3, rfl, by decide, by decide, L7.dr, fun nd H8 a80 a81 dr8 k8 => ?_⟩
      have L8 := L7.draw k8 dr8
      obtain ⟨_, hst7⟩ := L7.dr.trk
      obtain ⟨_, hst6⟩ := L6.dr.trk
      have e8 := k8.get e7 (Ne.symm (ne_of_none hst6 hnl))
      obtain ⟨n, n0, hn⟩ : ∃ n : Int, 0 ≤ n ∧ atI [V.int 0, .int 1, .int 7] nd = some (.int n) := by
        rcases (by omega : nd = 0 ∨ nd = 1 ∨ nd = 2) with rfl | rfl | rfl
        · exact ⟨0, by decide, rfl⟩
        · exact ⟨1, by decide, rfl⟩
        · exact ⟨7, by decide, rfl⟩
      walk_at "rd"
      refine ⟨st, sc, 256, rfl, by decide, by decide, L8.dr, fun da H9 a90 a91 dr9 k9 => ?_⟩
      have L9 := L8.draw k9 dr9
      walk_at "rd"
      refine x_newL fun q1 H10 hq1 k10 e10 => ?_
      walk_at "rd"
      refine x_rep e10 (by decide) (by decide) fun q2 H11 hq2 k11 e11 => ?_
      have L11 := (L9.pure k10).pure k11
      obtain ⟨_, hst11⟩ := L11.dr.trk
      obtain ⟨_, hst10⟩ := (L9.pure k10).dr.trk
      walk_at "rd"
      refine ⟨st, sc, 256, rfl, by decide, by decide, L11.dr, fun db H12 a120 a121 dr12 k12' => ?_⟩
      have L12 := L11.draw k12' dr12
      have e12 := k12'.get e11 (Ne.symm (ne_of_none hst10 hq2))
      walk_at "rd"
      refine x_newL fun q3 H13 hq3 k13 e13 => ?_
      walk_at "rd"
      refine x_rep e13 (by decide) (by decide) fun q4 H14 hq4 k14 e14 => ?_
      have e14' := k14.get (k13.get e12 id) id
      walk_at "rd"
      refine x_catL e14' e14 (by rw [List.length_replicate, List.length_replicate]; decide) fun l H15 hl k15 e15 => ?_
      generalize hds : List.replicate 128 da ++ List.replicate 128 db = ds
      have lds : ds.length = 256 := by rw [← hds, List.length_append, List.length_replicate, List.length_replicate]
      have pds : PosI ds := fun b hb => by
        rw [← hds] at hb
        rcases List.mem_append.mp hb with hb | hb
        · rw [List.eq_of_mem_replicate hb]; exact a90
        · rw [List.eq_of_mem_replicate hb]; exact a120
      have el : H15 l = some (.lst (ds.map V.int)) := by rw [e15, ← hds, List.map_append, List.map_replicate, List.map_replicate]; rfl
      have L14 := (L12.pure k13).pure k14
      have L15 := L14.pure k15
      have no1 := L14.dv.fresh hl
      have no2 := L14.md.fresh hl
      obtain ⟨_, hst14⟩ := L14.dr.trk
      have nsl : st ≠ l := ne_of_none hst14 hl
      clear e15
      walk_at "rd"
      refine x_cut (fun σ' H' => ∃ n, 0 ≤ n ∧ σ' = [some (.ref sc), some (.ref st), some (.ref p), some (.ref m), some (.int (0 + (i : Int))), some (.int kd), some (.int n), some (.ref l), u8, u9, u10, u11, none] ∧ LW c K H' st sc p m O O2 d ∧ H' l = some (.lst (ds.map V.int))) ?_ ?_
      · walk_at "rd"
        refine ite_dec (fun e => ?_) fun e => ?_
        · walk_at "rd"
          refine x_newL fun t H16 ht k16 e16 => ?_
          have L16 := L15.pure k16
          obtain ⟨_, hst15⟩ := L15.dr.trk
          walk_at "rd"
          refine ⟨st, sc, 4, rfl, by decide, by decide, L16.dr, fun nd H17 a170 a171 dr17 k17 => ?_⟩
          have e17 := k17.get e16 (Ne.symm (ne_of_none hst15 ht))
          obtain ⟨n, n0, hn⟩ : ∃ n : Int, 0 ≤ n ∧ atI [V.int 0, .int 1, .int 7, .int 200] nd = some (.int n) := by
            rcases (by omega : nd = 0 ∨ nd = 1 ∨ nd = 2 ∨ nd = 3) with rfl | rfl | rfl | rfl
            · exact ⟨0, by decide, rfl⟩
            · exact ⟨1, by decide, rfl⟩
            · exact ⟨7, by decide, rfl⟩
            · exact ⟨200, by decide, rfl⟩
          walk_at "rd"
          exact ⟨n, n0, rfl, L16.draw k17 dr17, k17.get (k16.get el id) nsl.symm⟩
        · exact ⟨n, n0, rfl, L15, el⟩
      · rintro σ' H20 ⟨n, n0, rfl, L20, el20⟩
        refine x_cut (fun σ' H' => ∃ u8 u9 u10 u11 O O2 d, σ' = [some (.ref sc), some (.ref st), some (.ref p), some (.ref m), some (.int (0 + (i : Int))), some (.int kd), some (.int n), some (.ref l), u8, u9, u10, u11, none] ∧ LW c K H' st sc p m O O2 d ∧ I6 (i + 1) d) ?_ ?_
        · walk_at "rd"
          refine ite_dec (fun e => ?_) fun e => ?_
          · walk_at "rd"
            have hk : kd = 0 ∨ kd = 1 ∨ kd = 2 ∨ kd = 3 ∨ kd = 4 := by omega
            refine ⟨m, O2, d, kd, n, l, ds, rfl, hk, n0, L20.md, SqL.of el20, no2, Nat.le_of_eq lds, sm, i6.s, pds, fun H21 O2' M21 s21 => ?_⟩
            obtain ⟨ol, hol⟩ : ∃ o, H20 l = some o := ⟨_, el20⟩
            obtain ⟨_, hst20⟩ := L20.dr.trk
            have dj' := s21.dj L20.dv.2 fun b z y => L20.dj b y z
            have D21 := L20.dv.off s21.kp fun b z y => L20.dj b y z
            have el21 := s21.kp.get el20 no2
            walk_at "rd"
            refine ⟨p, O, d, kd, n, l, ds, rfl, hk, n0, D21, el21, no1, Nat.le_of_eq lds, sm, fun H22 O' D22 s22 => ?_⟩
            have dj2 := s22.dj M21.2 fun b z y => dj' b y z
            have M22 := M21.off s22.kp fun b z y => dj' b y z
            have el22 := s22.kp.get el21 no1
            have no1' := s22.kp0 el21 no1
            have no2' := s21.kp0 el20 no2
            have hst21 := s21.kp.get hst20 L20.n2
            have L22 : LW c K H22 st sc p m O' O2' (dOp kd n ds d).1 := ⟨(L20.dr.kp s21.kp L20.n2).kp s22.kp L20.n1, D22, M22, dj2, s22.kp0 hst21 L20.n1, s21.kp0 hst20 L20.n2⟩
            walk_at "rd"
            rw [decide_eq_true (rfl : (dOp kd n ds d).2 = (dOp kd n ds d).2)]
            walk_at "rd"
            refine x_setL el22 (ix_ok (n := (List.map V.int ds).length) (j := 0) (by rw [List.length_map, lds]; decide)) ?_
            have kl : Kp (F1 l) H22 (upd H22 l (.lst ((ds.map V.int).set 0 (.int 400)))) := Kp.put el22 id
            exact ⟨_, _, _, _, O', O2', _, rfl, L22.off kl (fun b z => by rw [z]; exact no1') (fun b z => by rw [z]; exact no2') (L22.dr.kp kl nsl), i6.op lds pds⟩
          · walk_at "rd"
            refine ite_dec (fun e5 => ?_) fun e5 => ?_
            · walk_at "rd"
              refine ⟨st, sc, 9, rfl, by decide, by decide, L20.dr, fun x1 H21 a210 a211 dr21 k21 => ?_⟩
              have L21 := L20.draw k21 dr21
              walk_at "rd"
              refine ⟨st, sc, 500, rfl, by decide, by decide, L21.dr, fun x2 H22 a220 a221 dr22 k22 => ?_⟩
              have L22 := L21.draw k22 dr22
              obtain ⟨_, hst22⟩ := L22.dr.trk
              walk_at "rd"
              refine x_newL fun t H23 ht k23 e23 => ?_
              have L23 := L22.pure k23
              walk_at "rd"
              refine ⟨st, sc, 2, rfl, by decide, by decide, L23.dr, fun y H24 a240 a241 dr24 k24 => ?_⟩
              have L24 := L23.draw k24 dr24
              have e24 := k24.get e23 (Ne.symm (ne_of_none hst22 ht))
              obtain ⟨z, z0, hz⟩ : ∃ z : Int, 0 ≤ z ∧ atI [V.int x1, .int x2] y = some (.int z) := by
                rcases (by omega : y = 0 ∨ y = 1) with rfl | rfl
                · exact ⟨x1, a210, rfl⟩
                · exact ⟨x2, a220, rfl⟩
              obtain ⟨⟨dx, a1, a2, a3, a4, kvs, ws, D0⟩, _⟩ := id L24.dv
              have ho := D0.o
              walk_at "rd"
              refine ⟨p, O, d, some z, rfl, L24.dv, fun H25 O' D25 s25 => ?_⟩
              obtain ⟨dr25, M25, dj25, n25⟩ := L24.dev (d' := d) s25
              obtain ⟨⟨b1, b2, b3, b4, kvs2, ws2, M0⟩, _⟩ := id M25
              have hm := M0.o
              walk_at "rd"
              intro H26 p26 k26
              obtain ⟨O2', M26, s26⟩ := M25.most (q := some (d.done + z)) hm k26 p26
              obtain ⟨_, hst25⟩ := dr25.trk
              refine ⟨_, _, _, _, O', O2', dLimit (some z) d, rfl, ⟨dr25.kp s26.kp L24.n2, D25.off s26.kp fun b z y => dj25 b y z, M26, fun b z y => s26.dj D25.2 (fun b z y => dj25 b y z) b y z, n25, s26.kp0 hst25 L24.n2⟩, i6.limit fun m hm => by cases hm; exact z0⟩
            · walk_at "rd"
              refine ite_dec (fun e6 => ?_) fun e6 => ?_
              · obtain ⟨⟨dx, a1, a2, a3, a4, kvs, ws, D0⟩, _⟩ := id L20.dv
                have ho := D0.o
                walk_at "rd"
                refine ⟨p, O, d, none, rfl, L20.dv, fun H25 O' D25 s25 => ?_⟩
                obtain ⟨dr25, M25, dj25, n25⟩ := L20.dev (d' := d) s25
                obtain ⟨⟨b1, b2, b3, b4, kvs2, ws2, M0⟩, _⟩ := id M25
                have hm := M0.o
                walk_at "rd"
                intro H26 p26 k26
                obtain ⟨O2', M26, s26⟩ := M25.most (q := none) hm k26 p26
                obtain ⟨_, hst25⟩ := dr25.trk
                refine ⟨_, _, _, _, O', O2', dLimit none d, rfl, ⟨dr25.kp s26.kp L20.n2, D25.off s26.kp fun b z y => dj25 b y z, M26, fun b z y => s26.dj D25.2 (fun b z y => dj25 b y z) b y z, n25, s26.kp0 hst25 L20.n2⟩, i6.limit fun m hm => by cases hm⟩
              · walk_at "rd"
                refine ⟨st, sc, 12, rfl, by decide, by decide, L20.dr, fun nf H21 a210 a211 dr21 k21 => ?_⟩
                have L21 := L20.draw k21 dr21
                obtain ⟨_, _, _, _, _, hst21, _⟩ := id L21.dr
                walk_at "rd"
                refine wlc Wk.rng (F1 st) (fun H' => Dr K H' st sc) (fun i acc => ∃ ns : List Int, acc = ns.map V.int ∧ ns.length = i) (fun b e => by rw [e, hst21]; exact fun z => by cases z) (by rw [rgl_len]; omega) (fun _ _ _ => trivial)
                  ⟨[], rfl, rfl⟩ L21.dr (fun D hD H' o m q => q.off (ne_of_none hst21 hD) m) (fun i x acc H' R R0 ex pv dr kp hR _ => ?_) (fun fa H22 acc hfa hfa22 pv d22 k22 => ?_)
                · obtain ⟨ns, rfl, hl⟩ := pv
                  walk_at "rd"
                  refine ⟨rfl, ?_⟩
                  walk_at "rd"
                  refine ⟨st, sc, _, rfl, by omega, by omega, dr, fun d' H'' d0 d1 dr' kp' => hR _ _ kp' dr' ⟨ns ++ [d'], by rw [List.map_append]; rfl, by rw [List.length_append, hl]; rfl⟩⟩
                obtain ⟨fs, rfl, lf⟩ := pv
                have L22 := L21.draw k22 d22
                obtain ⟨_, hst22⟩ := L22.dr.trk
                have nsf : st ≠ fa := ne_of_none hst21 hfa
                have fo1 := L21.dv.fresh hfa
                have fo2 := L21.md.fresh hfa
                walk_at "rd"
                refine ⟨st, sc, 9, rfl, by decide, by decide, L22.dr, fun x1 H23 a230 a231 dr23 k23 => ?_⟩
                have L23 := L22.draw k23 dr23
                walk_at "rd"
                refine ⟨st, sc, 900, rfl, by decide, by decide, L23.dr, fun x2 H24 a240 a241 dr24 k24 => ?_⟩
                have L24 := L23.draw k24 dr24
                obtain ⟨_, hst24⟩ := L24.dr.trk
                walk_at "rd"
                refine x_newL fun t H25 ht k25 e25 => ?_
                have L25 := L24.pure k25
                walk_at "rd"
                refine ⟨st, sc, 2, rfl, by decide, by decide, L25.dr, fun y H26 a260 a261 dr26 k26 => ?_⟩
                have L26 := L25.draw k26 dr26
                have e26 := k26.get e25 (Ne.symm (ne_of_none hst24 ht))
                have hfa26 := k26.get (k25.get (k24.get (k23.get hfa22 nsf.symm) nsf.symm) id) nsf.symm
                obtain ⟨z, z0, hz⟩ : ∃ z : Int, 0 ≤ z ∧ atI [V.int x1, .int x2] y = some (.int z) := by
                  rcases (by omega : y = 0 ∨ y = 1) with rfl | rfl
                  · exact ⟨x1, a230, rfl⟩
                  · exact ⟨x2, a240, rfl⟩
                obtain ⟨⟨dx, a1, a2, a3, a4, kvs, ws, D0⟩, _⟩ := id L26.dv
                have ho := D0.o
                walk_at "rd"
                refine x_lstL (SqL.of hfa26) fun f2 H27 hf2 k27 e27 => ?_
                have L27 := L26.pure k27
                have ho27 := k27.get ho id
                walk_at "rd"
                refine ⟨p, O, d, f2, fs, z, rfl, z0, L27.dv, SqL.of e27, L26.dv.fresh hf2, sm, fun H28 O' D28 s28 => ?_⟩
                obtain ⟨dr28, M28, dj28, n28⟩ := L27.dev (d' := d) s28
                obtain ⟨_, hst28⟩ := dr28.trk
                walk_at "rd"
                refine ⟨m, O2, d, fa, fs, z, rfl, z0, M28, SqL.of (s28.kp.get (k27.get hfa26 id) fo1), fo2, sm, i6.s, fun H29 O2' M29 s29 => ?_⟩
                walk_at "rd"
                exact ⟨_, _, _, _, O', O2', _, rfl, ⟨dr28.kp s29.kp L27.n2, D28.off s29.kp fun b z y => dj28 b y z, M29, fun b z y => s29.dj D28.2 (fun b z y => dj28 b y z) b y z, n28, s29.kp0 hst28 L27.n2⟩, i6.crash⟩
        · rintro σ' H30 ⟨u8, u9, u10, u11, O, O2, d', rfl, L30, i30⟩
          walk_at "rd"
          refine ⟨p, O, m, O2, d', rfl, L30.dv, L30.md, i30.sml (by omega), i30.s, i30.p, i30.w, fun H31 k31 => ?_⟩
          walk_at "rd"
          exact ⟨_, _, _, _, _, _, _, _, O, O2, d', rfl, L30.pure k31, i30⟩
    · rintro σ H5 ⟨u4, u5, u6, u7, u8, u9, u10, u11, O, O2, d, rfl, L5, i6⟩
      walk_at "rd"
      exact k _
end
theorem all_mk {l : PySem.W.OpenLaw} {w : World} {K : PySem.W.Frag} {h : Heap} {mg : Str → Option Value} {fa : Addr} (X : K.In h) (G : h.Ns mainGlobals mg) (hfa : mg "law" = some (.ref fa))
    {C_Device : Addr}
    {C_PowerCut : Addr}
    {C_VaultError : Addr}
    {f1 : Addr} {od1 an1 : Option Addr} {sl1 : Array (Option Value)} {oc1 kV1 dc1 pm1 cd1 ct1 : Value}
    {f2 : Addr} {od2 an2 : Option Addr} {sl2 : Array (Option Value)} {oc2 kV2 dc2 pm2 cd2 ct2 : Value}
    {f3 : Addr} {od3 an3 : Option Addr} {sl3 : Array (Option Value)} {oc3 kV3 dc3 pm3 cd3 ct3 : Value}
    {f4 : Addr} {od4 an4 : Option Addr} {sl4 : Array (Option Value)} {oc4 kV4 dc4 pm4 cd4 ct4 : Value}
    {f5 : Addr} {od5 an5 : Option Addr} {sl5 : Array (Option Value)} {oc5 kV5 dc5 pm5 cd5 ct5 : Value}
    {f6 : Addr} {od6 an6 : Option Addr} {sl6 : Array (Option Value)} {oc6 kV6 dc6 pm6 cd6 ct6 : Value}
    {f7 : Addr} {od7 an7 : Option Addr} {sl7 : Array (Option Value)} {oc7 kV7 dc7 pm7 cd7 ct7 : Value}
    {f8 : Addr} {od8 an8 : Option Addr} {sl8 : Array (Option Value)} {oc8 kV8 dc8 pm8 cd8 ct8 : Value}
    {f9 : Addr} {od9 an9 : Option Addr} {sl9 : Array (Option Value)} {oc9 kV9 dc9 pm9 cd9 ct9 : Value}
    {f10 : Addr} {od10 an10 : Option Addr} {sl10 : Array (Option Value)} {oc10 kV10 dc10 pm10 cd10 ct10 : Value}
    {f11 : Addr} {od11 an11 : Option Addr} {sl11 : Array (Option Value)} {oc11 kV11 dc11 pm11 cd11 ct11 : Value}
    {f12 : Addr} {od12 an12 : Option Addr} {sl12 : Array (Option Value)} {oc12 kV12 dc12 pm12 cd12 ct12 : Value}
    {f13 : Addr} {od13 an13 : Option Addr} {sl13 : Array (Option Value)} {oc13 kV13 dc13 pm13 cd13 ct13 : Value}
    {f14 : Addr} {od14 an14 : Option Addr} {sl14 : Array (Option Value)} {oc14 kV14 dc14 pm14 cd14 ct14 : Value}
    {f15 : Addr} {od15 an15 : Option Addr} {sl15 : Array (Option Value)} {oc15 kV15 dc15 pm15 cd15 ct15 : Value}
    {f16 : Addr} {od16 an16 : Option Addr} {sl16 : Array (Option Value)} {oc16 kV16 dc16 pm16 cd16 ct16 : Value}
    {f17 : Addr} {od17 an17 : Option Addr} {sl17 : Array (Option Value)} {oc17 kV17 dc17 pm17 cd17 ct17 : Value}
    {f18 : Addr} {od18 an18 : Option Addr} {sl18 : Array (Option Value)} {oc18 kV18 dc18 pm18 cd18 ct18 : Value}
    {f19 : Addr} {od19 an19 : Option Addr} {sl19 : Array (Option Value)} {oc19 kV19 dc19 pm19 cd19 ct19 : Value}
    {f20 : Addr} {od20 an20 : Option Addr} {sl20 : Array (Option Value)} {oc20 kV20 dc20 pm20 cd20 ct20 : Value}
    {f21 : Addr} {od21 an21 : Option Addr} {sl21 : Array (Option Value)} {oc21 kV21 dc21 pm21 cd21 ct21 : Value}
    {f22 : Addr} {od22 an22 : Option Addr} {sl22 : Array (Option Value)} {oc22 kV22 dc22 pm22 cd22 ct22 : Value}
    {f23 : Addr} {od23 an23 : Option Addr} {sl23 : Array (Option Value)} {oc23 kV23 dc23 pm23 cd23 ct23 : Value}
    {f24 : Addr} {od24 an24 : Option Addr} {sl24 : Array (Option Value)} {oc24 kV24 dc24 pm24 cd24 ct24 : Value}
    {t_PAGE_SIZE : Tok}
    {t_HALF : Tok}
    (aC_VaultError : PySem.W.nsIn K mainGlobals "VaultError" = some (some (.ref C_VaultError)))
    (aC_PowerCut : PySem.W.nsIn K mainGlobals "PowerCut" = some (some (.ref C_PowerCut)))
    (aC_Device : PySem.W.nsIn K mainGlobals "Device" = some (some (.ref C_Device)))
    (a1 : PySem.W.findIn K (.ref C_Device) "__init__" = some (some (.ref f1)))
    (i1 : PySem.W.isFn K (.ref f1) = true)
    (l1 : K.lookup f1 = some ⟨oc1, od1, .func (PySem.W.fnOf "__init__" "Device.__init__" (defArgs s_Device___init__) (defBody s_Device___init__) (defScope s_Device___init__) .none kV1 dc1 pm1 an1 cd1 ct1), sl1⟩)
    (c1 : PySem.W.codeIn K cd1 "Device.__init__" = true)
    (k1 : PySem.W.keepIn K (.ref f1) = true)
    (a2 : PySem.W.findIn K (.ref C_Device) "step" = some (some (.ref f2)))
    (i2 : PySem.W.isFn K (.ref f2) = true)
    (l2 : K.lookup f2 = some ⟨oc2, od2, .func (PySem.W.fnOf "step" "Device.step" (defArgs s_Device_step) (defBody s_Device_step) (defScope s_Device_step) .none kV2 dc2 pm2 an2 cd2 ct2), sl2⟩)
    (c2 : PySem.W.codeIn K cd2 "Device.step" = true)
    (k2 : PySem.W.keepIn K (.ref f2) = true)
    (a3 : PySem.W.findIn K (.ref C_Device) "write_page" = some (some (.ref f3)))
    (i3 : PySem.W.isFn K (.ref f3) = true)
    (l3 : K.lookup f3 = some ⟨oc3, od3, .func (PySem.W.fnOf "write_page" "Device.write_page" (defArgs s_Device_write_page) (defBody s_Device_write_page) (defScope s_Device_write_page) .none kV3 dc3 pm3 an3 cd3 ct3), sl3⟩)
    (c3 : PySem.W.codeIn K cd3 "Device.write_page" = true)
    (k3 : PySem.W.keepIn K (.ref f3) = true)
    (a4 : PySem.W.findIn K (.ref C_Device) "sync_pages" = some (some (.ref f4)))
    (i4 : PySem.W.isFn K (.ref f4) = true)
    (l4 : K.lookup f4 = some ⟨oc4, od4, .func (PySem.W.fnOf "sync_pages" "Device.sync_pages" (defArgs s_Device_sync_pages) (defBody s_Device_sync_pages) (defScope s_Device_sync_pages) .none kV4 dc4 pm4 an4 cd4 ct4), sl4⟩)
    (c4 : PySem.W.codeIn K cd4 "Device.sync_pages" = true)
    (k4 : PySem.W.keepIn K (.ref f4) = true)
    (a5 : PySem.W.findIn K (.ref C_Device) "append" = some (some (.ref f5)))
    (i5 : PySem.W.isFn K (.ref f5) = true)
    (l5 : K.lookup f5 = some ⟨oc5, od5, .func (PySem.W.fnOf "append" "Device.append" (defArgs s_Device_append) (defBody s_Device_append) (defScope s_Device_append) .none kV5 dc5 pm5 an5 cd5 ct5), sl5⟩)
    (c5 : PySem.W.codeIn K cd5 "Device.append" = true)
    (k5 : PySem.W.keepIn K (.ref f5) = true)
    (a6 : PySem.W.findIn K (.ref C_Device) "clear" = some (some (.ref f6)))
    (i6 : PySem.W.isFn K (.ref f6) = true)
    (l6 : K.lookup f6 = some ⟨oc6, od6, .func (PySem.W.fnOf "clear" "Device.clear" (defArgs s_Device_clear) (defBody s_Device_clear) (defScope s_Device_clear) .none kV6 dc6 pm6 an6 cd6 ct6), sl6⟩)
    (c6 : PySem.W.codeIn K cd6 "Device.clear" = true)
    (k6 : PySem.W.keepIn K (.ref f6) = true)
    (a7 : PySem.W.findIn K (.ref C_Device) "sync_log" = some (some (.ref f7)))
    (i7 : PySem.W.isFn K (.ref f7) = true)
    (l7 : K.lookup f7 = some ⟨oc7, od7, .func (PySem.W.fnOf "sync_log" "Device.sync_log" (defArgs s_Device_sync_log) (defBody s_Device_sync_log) (defScope s_Device_sync_log) .none kV7 dc7 pm7 an7 cd7 ct7), sl7⟩)
    (c7 : PySem.W.codeIn K cd7 "Device.sync_log" = true)
    (k7 : PySem.W.keepIn K (.ref f7) = true)
    (a8 : PySem.W.findIn K (.ref C_Device) "durable_page" = some (some (.ref f8)))
    (i8 : PySem.W.isFn K (.ref f8) = true)
    (l8 : K.lookup f8 = some ⟨oc8, od8, .func (PySem.W.fnOf "durable_page" "Device.durable_page" (defArgs s_Device_durable_page) (defBody s_Device_durable_page) (defScope s_Device_durable_page) .none kV8 dc8 pm8 an8 cd8 ct8), sl8⟩)
    (c8 : PySem.W.codeIn K cd8 "Device.durable_page" = true)
    (k8 : PySem.W.keepIn K (.ref f8) = true)
    (a9 : PySem.W.findIn K (.ref C_Device) "page" = some (some (.ref f9)))
    (i9 : PySem.W.isFn K (.ref f9) = true)
    (l9 : K.lookup f9 = some ⟨oc9, od9, .func (PySem.W.fnOf "page" "Device.page" (defArgs s_Device_page) (defBody s_Device_page) (defScope s_Device_page) .none kV9 dc9 pm9 an9 cd9 ct9), sl9⟩)
    (c9 : PySem.W.codeIn K cd9 "Device.page" = true)
    (k9 : PySem.W.keepIn K (.ref f9) = true)
    (a10 : PySem.W.findIn K (.ref C_Device) "log" = some (some (.ref f10)))
    (i10 : PySem.W.isFn K (.ref f10) = true)
    (l10 : K.lookup f10 = some ⟨oc10, od10, .func (PySem.W.fnOf "log" "Device.log" (defArgs s_Device_log) (defBody s_Device_log) (defScope s_Device_log) .none kV10 dc10 pm10 an10 cd10 ct10), sl10⟩)
    (c10 : PySem.W.codeIn K cd10 "Device.log" = true)
    (k10 : PySem.W.keepIn K (.ref f10) = true)
    (a11 : PySem.W.findIn K (.ref C_Device) "limit" = some (some (.ref f11)))
    (i11 : PySem.W.isFn K (.ref f11) = true)
    (l11 : K.lookup f11 = some ⟨oc11, od11, .func (PySem.W.fnOf "limit" "Device.limit" (defArgs s_Device_limit) (defBody s_Device_limit) (defScope s_Device_limit) .none kV11 dc11 pm11 an11 cd11 ct11), sl11⟩)
    (c11 : PySem.W.codeIn K cd11 "Device.limit" = true)
    (k11 : PySem.W.keepIn K (.ref f11) = true)
    (a12 : PySem.W.findIn K (.ref C_Device) "crash" = some (some (.ref f12)))
    (i12 : PySem.W.isFn K (.ref f12) = true)
    (l12 : K.lookup f12 = some ⟨oc12, od12, .func (PySem.W.fnOf "crash" "Device.crash" (defArgs s_Device_crash) (defBody s_Device_crash) (defScope s_Device_crash) .none kV12 dc12 pm12 an12 cd12 ct12), sl12⟩)
    (c12 : PySem.W.codeIn K cd12 "Device.crash" = true)
    (k12 : PySem.W.keepIn K (.ref f12) = true)
    (a13 : PySem.W.findIn K (.ref C_Device) "steps" = some (some (.ref f13)))
    (i13 : PySem.W.isFn K (.ref f13) = true)
    (l13 : K.lookup f13 = some ⟨oc13, od13, .func (PySem.W.fnOf "steps" "Device.steps" (defArgs s_Device_steps) (defBody s_Device_steps) (defScope s_Device_steps) .none kV13 dc13 pm13 an13 cd13 ct13), sl13⟩)
    (c13 : PySem.W.codeIn K cd13 "Device.steps" = true)
    (k13 : PySem.W.keepIn K (.ref f13) = true)
    (a14 : PySem.W.findIn K (.ref C_Device) "pending" = some (some (.ref f14)))
    (i14 : PySem.W.isFn K (.ref f14) = true)
    (l14 : K.lookup f14 = some ⟨oc14, od14, .func (PySem.W.fnOf "pending" "Device.pending" (defArgs s_Device_pending) (defBody s_Device_pending) (defScope s_Device_pending) .none kV14 dc14 pm14 an14 cd14 ct14), sl14⟩)
    (c14 : PySem.W.codeIn K cd14 "Device.pending" = true)
    (k14 : PySem.W.keepIn K (.ref f14) = true)
    (a15 : PySem.W.nsIn K mainGlobals "_law_draw" = some (some (.ref f15)))
    (l15 : K.lookup f15 = some ⟨oc15, od15, .func (PySem.W.fnOf "_law_draw" "_law_draw" (defArgs s__law_draw) (defBody s__law_draw) (defScope s__law_draw) .none kV15 dc15 pm15 an15 cd15 ct15), sl15⟩)
    (c15 : PySem.W.codeIn K cd15 "_law_draw" = true)
    (k15 : PySem.W.keepIn K (.ref f15) = true)
    (a16 : PySem.W.nsIn K mainGlobals "_law_new" = some (some (.ref f16)))
    (l16 : K.lookup f16 = some ⟨oc16, od16, .func (PySem.W.fnOf "_law_new" "_law_new" (defArgs s__law_new) (defBody s__law_new) (defScope s__law_new) .none kV16 dc16 pm16 an16 cd16 ct16), sl16⟩)
    (c16 : PySem.W.codeIn K cd16 "_law_new" = true)
    (k16 : PySem.W.keepIn K (.ref f16) = true)
    (a17 : PySem.W.nsIn K mainGlobals "_law_may" = some (some (.ref f17)))
    (l17 : K.lookup f17 = some ⟨oc17, od17, .func (PySem.W.fnOf "_law_may" "_law_may" (defArgs s__law_may) (defBody s__law_may) (defScope s__law_may) .none kV17 dc17 pm17 an17 cd17 ct17), sl17⟩)
    (c17 : PySem.W.codeIn K cd17 "_law_may" = true)
    (k17 : PySem.W.keepIn K (.ref f17) = true)
    (a18 : PySem.W.nsIn K mainGlobals "_law_log" = some (some (.ref f18)))
    (l18 : K.lookup f18 = some ⟨oc18, od18, .func (PySem.W.fnOf "_law_log" "_law_log" (defArgs s__law_log) (defBody s__law_log) (defScope s__law_log) .none kV18 dc18 pm18 an18 cd18 ct18), sl18⟩)
    (c18 : PySem.W.codeIn K cd18 "_law_log" = true)
    (k18 : PySem.W.keepIn K (.ref f18) = true)
    (a19 : PySem.W.nsIn K mainGlobals "_law_page" = some (some (.ref f19)))
    (l19 : K.lookup f19 = some ⟨oc19, od19, .func (PySem.W.fnOf "_law_page" "_law_page" (defArgs s__law_page) (defBody s__law_page) (defScope s__law_page) .none kV19 dc19 pm19 an19 cd19 ct19), sl19⟩)
    (c19 : PySem.W.codeIn K cd19 "_law_page" = true)
    (k19 : PySem.W.keepIn K (.ref f19) = true)
    (a20 : PySem.W.nsIn K mainGlobals "_law_crash" = some (some (.ref f20)))
    (l20 : K.lookup f20 = some ⟨oc20, od20, .func (PySem.W.fnOf "_law_crash" "_law_crash" (defArgs s__law_crash) (defBody s__law_crash) (defScope s__law_crash) .none kV20 dc20 pm20 an20 cd20 ct20), sl20⟩)
    (c20 : PySem.W.codeIn K cd20 "_law_crash" = true)
    (k20 : PySem.W.keepIn K (.ref f20) = true)
    (a21 : PySem.W.nsIn K mainGlobals "_law_expected" = some (some (.ref f21)))
    (l21 : K.lookup f21 = some ⟨oc21, od21, .func (PySem.W.fnOf "_law_expected" "_law_expected" (defArgs s__law_expected) (defBody s__law_expected) (defScope s__law_expected) .none kV21 dc21 pm21 an21 cd21 ct21), sl21⟩)
    (c21 : PySem.W.codeIn K cd21 "_law_expected" = true)
    (k21 : PySem.W.keepIn K (.ref f21) = true)
    (a22 : PySem.W.nsIn K mainGlobals "_law_done" = some (some (.ref f22)))
    (l22 : K.lookup f22 = some ⟨oc22, od22, .func (PySem.W.fnOf "_law_done" "_law_done" (defArgs s__law_done) (defBody s__law_done) (defScope s__law_done) .none kV22 dc22 pm22 an22 cd22 ct22), sl22⟩)
    (c22 : PySem.W.codeIn K cd22 "_law_done" = true)
    (k22 : PySem.W.keepIn K (.ref f22) = true)
    (a23 : PySem.W.nsIn K mainGlobals "_law_same" = some (some (.ref f23)))
    (l23 : K.lookup f23 = some ⟨oc23, od23, .func (PySem.W.fnOf "_law_same" "_law_same" (defArgs s__law_same) (defBody s__law_same) (defScope s__law_same) .none kV23 dc23 pm23 an23 cd23 ct23), sl23⟩)
    (c23 : PySem.W.codeIn K cd23 "_law_same" = true)
    (k23 : PySem.W.keepIn K (.ref f23) = true)
    (a24 : PySem.W.nsIn K mainGlobals "law" = some (some (.ref f24)))
    (l24 : K.lookup f24 = some ⟨oc24, od24, .func (PySem.W.fnOf "law" "law" (defArgs s_law) (defBody s_law) (defScope s_law) .none kV24 dc24 pm24 an24 cd24 ct24), sl24⟩)
    (c24 : PySem.W.codeIn K cd24 "law" = true)
    (k24 : PySem.W.keepIn K (.ref f24) = true)
    (g_PAGE_SIZE : PySem.W.nsIn K mainGlobals "PAGE_SIZE" = some (some (.int 256 t_PAGE_SIZE)))
    (g_HALF : PySem.W.nsIn K mainGlobals "HALF" = some (some (.int 128 t_HALF)))
    (z_ValueError : PySem.W.nsIn K mainGlobals "ValueError" = some none)
    (z_int : PySem.W.nsIn K mainGlobals "int" = some none)
    (z_isinstance : PySem.W.nsIn K mainGlobals "isinstance" = some none)
    (z_len : PySem.W.nsIn K mainGlobals "len" = some none)
    (z_list : PySem.W.nsIn K mainGlobals "list" = some none)
    (z_min : PySem.W.nsIn K mainGlobals "min" = some none)
    (z_range : PySem.W.nsIn K mainGlobals "range" = some none)
    (z_reversed : PySem.W.nsIn K mainGlobals "reversed" = some none)
    (pg_Device : PySem.W.plainGet K C_Device Str.empty = true)
    (hd_Device : PySem.W.hasDictIn K C_Device = true)
    (po_Device : PySem.W.plainOver K C_Device = true)
    (sa_Device : PySem.W.findIn K (.ref C_Device) "__setattr__" = some (some (.builtin "object.__setattr__")))
    (mk_Device : PySem.W.makesIn K C_Device = true)
    (kc_Device : PySem.W.keepIn K (.ref C_Device) = true)
    (n_Device_pages : PySem.W.findIn K (.ref C_Device) "pages" = some none)
    (n_Device_page_writes : PySem.W.findIn K (.ref C_Device) "page_writes" = some none)
    (n_Device_durable_log : PySem.W.findIn K (.ref C_Device) "durable_log" = some none)
    (n_Device_log_steps : PySem.W.findIn K (.ref C_Device) "log_steps" = some none)
    (n_Device_done : PySem.W.findIn K (.ref C_Device) "done" = some none)
    (n_Device_most : PySem.W.findIn K (.ref C_Device) "most" = some none)
    (xx_VaultError : PySem.W.excIn K C_VaultError [.type "ValueError", .type "Exception", .type "BaseException", .type "object"] "ValueError.__new__" = true)
    (xk_VaultError : PySem.W.keepIn K (.ref C_VaultError) = true)
    (xb_VaultError : PySem.W.subIn K (.ref C_VaultError) (.type "BaseException") = some true)
    (xt_VaultError : PySem.W.typeIn K (.ref C_VaultError) = some (.type "type"))
    (xi_VaultError : PySem.W.isClsIn K C_VaultError = true)
    (xs_VaultError : PySem.W.subIn K (.ref C_VaultError) (.ref C_VaultError) = some true)
    (xx_PowerCut : PySem.W.excIn K C_PowerCut [.type "ValueError", .type "Exception", .type "BaseException", .type "object"] "ValueError.__new__" = true)
    (xk_PowerCut : PySem.W.keepIn K (.ref C_PowerCut) = true)
    (xb_PowerCut : PySem.W.subIn K (.ref C_PowerCut) (.type "BaseException") = some true)
    (xt_PowerCut : PySem.W.typeIn K (.ref C_PowerCut) = some (.type "type"))
    (xi_PowerCut : PySem.W.isClsIn K C_PowerCut = true)
    (xs_PowerCut : PySem.W.subIn K (.ref C_PowerCut) (.ref C_PowerCut) = some true)
    (e_hg_PowerCut : PySem.W.findIn K (.ref C_PowerCut) "__getattribute__" = some (some (.builtin "BaseException.__getattribute__")))
    (e_hk_PowerCut : PySem.W.findIn K (.ref C_PowerCut) "__getattr__" = some none)
    (e_hs_PowerCut : PySem.W.subIn K (.ref C_PowerCut) (.type "BaseException") = some true)
    (e_hd_PowerCut : PySem.W.hasDictIn K C_PowerCut = true)
    (e_ha_PowerCut : PySem.W.findIn K (.ref C_PowerCut) "__class__" = some (some (.builtin "object.__class__")))
    (e_hm_PowerCut : PySem.W.mroIn K C_PowerCut (.type "object") = some true)
    (e_hn_PowerCut : PySem.W.specialIn K (.builtin "object.__class__") "__get__" = some (some (.builtin "getset_descriptor.__get__")))
    (e_ht_PowerCut : PySem.W.takesIn K (.builtin "object.__class__") = some true)
    (e_k_PowerCut_VaultError : PySem.W.kitOne K (.ref C_PowerCut) (.ref C_VaultError) = some true)
    (e_k_PowerCut_ValueError : PySem.W.kitOne K (.ref C_PowerCut) (.type "ValueError") = some true)
    : ∃ fd : FuncData, (∀ (s : Shared) (v : Value), BindsTo s fd ⟨[v], []⟩ [("_law_script", v)]) ∧ ∀ base : Heap, K.In base → base.Ns mainGlobals mg → FnOk l.prog w K mg base CX0 4 fa fd ["_law_script"] (sp_law K) := by
  have T : Txt K mg ⟨C_VaultError, C_PowerCut, C_Device⟩ := { f_Device___init__ := ⟨f1, _, fun_mk (st := s_Device___init__) l1 c1 k1, a1, i1⟩, f_Device_step := ⟨f2, _, fun_mk (st := s_Device_step) l2 c2 k2, a2, i2⟩, f_Device_write_page := ⟨f3, _, fun_mk (st := s_Device_write_page) l3 c3 k3, a3, i3⟩, f_Device_sync_pages := ⟨f4, _, fun_mk (st := s_Device_sync_pages) l4 c4 k4, a4, i4⟩, f_Device_append := ⟨f5, _, fun_mk (st := s_Device_append) l5 c5 k5, a5, i5⟩, f_Device_clear := ⟨f6, _, fun_mk (st := s_Device_clear) l6 c6 k6, a6, i6⟩, f_Device_sync_log := ⟨f7, _, fun_mk (st := s_Device_sync_log) l7 c7 k7, a7, i7⟩, f_Device_durable_page := ⟨f8, _, fun_mk (st := s_Device_durable_page) l8 c8 k8, a8, i8⟩, f_Device_page := ⟨f9, _, fun_mk (st := s_Device_page) l9 c9 k9, a9, i9⟩, f_Device_log := ⟨f10, _, fun_mk (st := s_Device_log) l10 c10 k10, a10, i10⟩, f_Device_limit := ⟨f11, _, fun_mk (st := s_Device_limit) l11 c11 k11, a11, i11⟩, f_Device_crash := ⟨f12, _, fun_mk (st := s_Device_crash) l12 c12 k12, a12, i12⟩, f_Device_steps := ⟨f13, _, fun_mk (st := s_Device_steps) l13 c13 k13, a13, i13⟩, f_Device_pending := ⟨f14, _, fun_mk (st := s_Device_pending) l14 c14 k14, a14, i14⟩, f__law_draw := ⟨f15, _, fun_mk (st := s__law_draw) l15 c15 k15, PySem.W.mg_of X G a15⟩, f__law_new := ⟨f16, _, fun_mk (st := s__law_new) l16 c16 k16, PySem.W.mg_of X G a16⟩, f__law_may := ⟨f17, _, fun_mk (st := s__law_may) l17 c17 k17, PySem.W.mg_of X G a17⟩, f__law_log := ⟨f18, _, fun_mk (st := s__law_log) l18 c18 k18, PySem.W.mg_of X G a18⟩, f__law_page := ⟨f19, _, fun_mk (st := s__law_page) l19 c19 k19, PySem.W.mg_of X G a19⟩, f__law_crash := ⟨f20, _, fun_mk (st := s__law_crash) l20 c20 k20, PySem.W.mg_of X G a20⟩, f__law_expected := ⟨f21, _, fun_mk (st := s__law_expected) l21 c21 k21, PySem.W.mg_of X G a21⟩, f__law_done := ⟨f22, _, fun_mk (st := s__law_done) l22 c22 k22, PySem.W.mg_of X G a22⟩, f__law_same := ⟨f23, _, fun_mk (st := s__law_same) l23 c23 k23, PySem.W.mg_of X G a23⟩, f_law := ⟨f24, _, fun_mk (st := s_law) l24 c24 k24, PySem.W.mg_of X G a24⟩, m_PAGE_SIZE := ⟨_, PySem.W.mg_of X G g_PAGE_SIZE⟩, m_HALF := ⟨_, PySem.W.mg_of X G g_HALF⟩, z_ValueError := PySem.W.mg_none_of X G z_ValueError, z_int := PySem.W.mg_none_of X G z_int, z_isinstance := PySem.W.mg_none_of X G z_isinstance, z_len := PySem.W.mg_none_of X G z_len, z_list := PySem.W.mg_none_of X G z_list, z_min := PySem.W.mg_none_of X G z_min, z_range := PySem.W.mg_none_of X G z_range, z_reversed := PySem.W.mg_none_of X G z_reversed, cl_Device := ⟨pg_Device, hd_Device, po_Device, sa_Device⟩, mk_Device := ⟨mk_Device, kc_Device⟩, mg_Device := PySem.W.mg_of X G aC_Device, n_Device_pages := n_Device_pages, n_Device_page_writes := n_Device_page_writes, n_Device_durable_log := n_Device_durable_log, n_Device_log_steps := n_Device_log_steps, n_Device_done := n_Device_done, n_Device_most := n_Device_most, ex_VaultError := ⟨PySem.W.mg_of X G aC_VaultError, xx_VaultError, xk_VaultError, xb_VaultError, xt_VaultError, xi_VaultError, xs_VaultError⟩, ex_PowerCut := ⟨PySem.W.mg_of X G aC_PowerCut, xx_PowerCut, xk_PowerCut, xb_PowerCut, xt_PowerCut, xi_PowerCut, xs_PowerCut⟩, ec_PowerCut := ⟨⟨e_hg_PowerCut, e_hk_PowerCut, e_hs_PowerCut, e_hd_PowerCut, e_ha_PowerCut, e_hn_PowerCut, e_ht_PowerCut, e_hm_PowerCut⟩, e_k_PowerCut_VaultError, e_k_PowerCut_ValueError⟩ }
  have e := hfa.symm.trans (PySem.W.mg_of X G a24)
  cases e
  refine ⟨PySem.W.fnOf "law" "law" (defArgs s_law) (defBody s_law) (defScope s_law) .none kV24 dc24 pm24 an24 cd24 ct24, fun s v => .of_eq rfl, fun base _ _ => ?_⟩
  exact ok_law (fun_mk (st := s_law) l24 c24 k24) T
theorem walk {l : PySem.W.OpenLaw} {q : Program} {loose : List Str} {XP : (Str → Option Value) → Heap → Prop} {YP : World → Heap → Prop} {d : DefRec} {K : Params → PySem.W.Frag} (hn : l.most = some 63) (hdf : d.params.defaults = [])
    (hY : ∀ (w : World) (h : Heap), YP w h → (K w.params).In h)
    (F : ∀ (w : World) (mg : Str → Option Value) (fa : Addr) (h : Heap), (K w.params).In h → h.Ns mainGlobals mg → mg d.name = some (.ref fa) →
      ∃ fd : FuncData, (∀ (s : Shared) (u : Value), BindsTo s fd ⟨[u], []⟩ [("_law_script", u)]) ∧ ∀ base : Heap, (K w.params).In base → base.Ns mainGlobals mg → FnOk l.prog w (K w.params) mg base CX0 4 fa fd ["_law_script"] (sp_law (K w.params))) :
    PySem.W.WalkO q loose XP YP l.row.toRowW d [] (fun f vs => PySem.call f vs) :=
  L2.walk_of (n := 63) (k := 4) (x := "_law_script") (CX := fun _ => CX0) (sp := fun w => sp_law (K w.params)) hn (by decide) hdf ⟨rfl, by decide, by decide⟩ hY F (fun _ _ a ns hl hO hS => ⟨a, ns, rfl, Sc.of hO hS, hl, fun _ => rfl⟩) fun _ _ _ _ _ z => z
end NV
open PySem PySem.W PyProof.Rows
set_option maxRecDepth 100000 in
set_option maxHeartbeats 0 in
theorem PySem.Challenge.cw_nearvault_k03_devices_holds : PySem.Challenge.rw_nearvault_k03_devices.Holds := by
  w_on; o_law; k_head; (case hw => w_witness2)
  k_fill
  refine NV.walk (l := PySem.Challenge.rw_nearvault_k03_devices) rfl rfl (fun w h Y => PySem.W.kIn_of Y) ?F
  case F =>
    intro w mg fa h KX G hmg
    refine' NV.all_mk KX G hmg ?aC_VaultError ?aC_PowerCut ?aC_Device ?a1 ?i1 ?l1 ?c1 ?k1 ?a2 ?i2 ?l2 ?c2 ?k2 ?a3 ?i3 ?l3 ?c3 ?k3 ?a4 ?i4 ?l4 ?c4 ?k4 ?a5 ?i5 ?l5 ?c5 ?k5 ?a6 ?i6 ?l6 ?c6 ?k6 ?a7 ?i7 ?l7 ?c7 ?k7 ?a8 ?i8 ?l8 ?c8 ?k8 ?a9 ?i9 ?l9 ?c9 ?k9 ?a10 ?i10 ?l10 ?c10 ?k10 ?a11 ?i11 ?l11 ?c11 ?k11 ?a12 ?i12 ?l12 ?c12 ?k12 ?a13 ?i13 ?l13 ?c13 ?k13 ?a14 ?i14 ?l14 ?c14 ?k14 ?a15 ?l15 ?c15 ?k15 ?a16 ?l16 ?c16 ?k16 ?a17 ?l17 ?c17 ?k17 ?a18 ?l18 ?c18 ?k18 ?a19 ?l19 ?c19 ?k19 ?a20 ?l20 ?c20 ?k20 ?a21 ?l21 ?c21 ?k21 ?a22 ?l22 ?c22 ?k22 ?a23 ?l23 ?c23 ?k23 ?a24 ?l24 ?c24 ?k24 ?g_PAGE_SIZE ?g_HALF ?z_ValueError ?z_int ?z_isinstance ?z_len ?z_list ?z_min ?z_range ?z_reversed ?pg_Device ?hd_Device ?po_Device ?sa_Device ?mk_Device ?kc_Device ?n_Device_pages ?n_Device_page_writes ?n_Device_durable_log ?n_Device_log_steps ?n_Device_done ?n_Device_most ?xx_VaultError ?xk_VaultError ?xb_VaultError ?xt_VaultError ?xi_VaultError ?xs_VaultError ?xx_PowerCut ?xk_PowerCut ?xb_PowerCut ?xt_PowerCut ?xi_PowerCut ?xs_PowerCut ?e_hg_PowerCut ?e_hk_PowerCut ?e_hs_PowerCut ?e_hd_PowerCut ?e_ha_PowerCut ?e_hm_PowerCut ?e_hn_PowerCut ?e_ht_PowerCut ?e_k_PowerCut_VaultError ?e_k_PowerCut_ValueError
    (case aC_VaultError => k_is)
    (case aC_PowerCut => k_is)
    (case aC_Device => k_is)
    (case a1 => k_is)
    (case i1 => k_is)
    (case l1 => k_is)
    (case c1 => k_is)
    (case k1 => k_is)
    (case a2 => k_is)
    (case i2 => k_is)
    (case l2 => k_is)
    (case c2 => k_is)
    (case k2 => k_is)
    (case a3 => k_is)
    (case i3 => k_is)
    (case l3 => k_is)
    (case c3 => k_is)
    (case k3 => k_is)
    (case a4 => k_is)
    (case i4 => k_is)
    (case l4 => k_is)
    (case c4 => k_is)
    (case k4 => k_is)
    (case a5 => k_is)
    (case i5 => k_is)
    (case l5 => k_is)
    (case c5 => k_is)
    (case k5 => k_is)
    (case a6 => k_is)
    (case i6 => k_is)
    (case l6 => k_is)
    (case c6 => k_is)
    (case k6 => k_is)
    (case a7 => k_is)
    (case i7 => k_is)
    (case l7 => k_is)
    (case c7 => k_is)
    (case k7 => k_is)
    (case a8 => k_is)
    (case i8 => k_is)
    (case l8 => k_is)
    (case c8 => k_is)
    (case k8 => k_is)
    (case a9 => k_is)
    (case i9 => k_is)
    (case l9 => k_is)
    (case c9 => k_is)
    (case k9 => k_is)
    (case a10 => k_is)
    (case i10 => k_is)
    (case l10 => k_is)
    (case c10 => k_is)
    (case k10 => k_is)
    (case a11 => k_is)
    (case i11 => k_is)
    (case l11 => k_is)
    (case c11 => k_is)
    (case k11 => k_is)
    (case a12 => k_is)
    (case i12 => k_is)
    (case l12 => k_is)
    (case c12 => k_is)
    (case k12 => k_is)
    (case a13 => k_is)
    (case i13 => k_is)
    (case l13 => k_is)
    (case c13 => k_is)
    (case k13 => k_is)
    (case a14 => k_is)
    (case i14 => k_is)
    (case l14 => k_is)
    (case c14 => k_is)
    (case k14 => k_is)
    (case a15 => k_is)
    (case l15 => k_is)
    (case c15 => k_is)
    (case k15 => k_is)
    (case a16 => k_is)
    (case l16 => k_is)
    (case c16 => k_is)
    (case k16 => k_is)
    (case a17 => k_is)
    (case l17 => k_is)
    (case c17 => k_is)
    (case k17 => k_is)
    (case a18 => k_is)
    (case l18 => k_is)
    (case c18 => k_is)
    (case k18 => k_is)
    (case a19 => k_is)
    (case l19 => k_is)
    (case c19 => k_is)
    (case k19 => k_is)
    (case a20 => k_is)
    (case l20 => k_is)
    (case c20 => k_is)
    (case k20 => k_is)
    (case a21 => k_is)
    (case l21 => k_is)
    (case c21 => k_is)
    (case k21 => k_is)
    (case a22 => k_is)
    (case l22 => k_is)
    (case c22 => k_is)
    (case k22 => k_is)
    (case a23 => k_is)
    (case l23 => k_is)
    (case c23 => k_is)
    (case k23 => k_is)
    (case a24 => k_is)
    (case l24 => k_is)
    (case c24 => k_is)
    (case k24 => k_is)
    (case g_PAGE_SIZE => k_is)
    (case g_HALF => k_is)
    (case z_ValueError => k_is)
    (case z_int => k_is)
    (case z_isinstance => k_is)
    (case z_len => k_is)
    (case z_list => k_is)
    (case z_min => k_is)
    (case z_range => k_is)
    (case z_reversed => k_is)
    (case pg_Device => k_is)
    (case hd_Device => k_is)
    (case po_Device => k_is)
    (case sa_Device => k_is)
    (case mk_Device => k_is)
    (case kc_Device => k_is)
    (case n_Device_pages => k_is)
    (case n_Device_page_writes => k_is)
    (case n_Device_durable_log => k_is)
    (case n_Device_log_steps => k_is)
    (case n_Device_done => k_is)
    (case n_Device_most => k_is)
    (case xx_VaultError => k_exc)
    (case xk_VaultError => k_is)
    (case xb_VaultError => k_is)
    (case xt_VaultError => k_is)
    (case xi_VaultError => k_is)
    (case xs_VaultError => (first | rfl | k_is))
    (case xx_PowerCut => k_exc)
    (case xk_PowerCut => k_is)
    (case xb_PowerCut => k_is)
    (case xt_PowerCut => k_is)
    (case xi_PowerCut => k_is)
    (case xs_PowerCut => (first | rfl | k_is))
    (case e_hg_PowerCut => (first | k_is | rfl | decide +kernel))
    (case e_hk_PowerCut => (first | k_is | rfl | decide +kernel))
    (case e_hs_PowerCut => (first | k_is | rfl | decide +kernel))
    (case e_hd_PowerCut => (first | k_is | rfl | decide +kernel))
    (case e_ha_PowerCut => (first | k_is | rfl | decide +kernel))
    (case e_hm_PowerCut => (first | k_is | rfl | decide +kernel))
    (case e_hn_PowerCut => (first | k_is | rfl | decide +kernel))
    (case e_ht_PowerCut => (first | k_is | rfl | decide +kernel))
    (case e_k_PowerCut_VaultError => (first | k_is | rfl | decide +kernel))
    (case e_k_PowerCut_ValueError => (first | k_is | rfl | decide +kernel))
