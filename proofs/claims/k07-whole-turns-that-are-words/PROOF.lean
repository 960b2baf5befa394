import PyProof.Rows.All
import Wide.All
import OpenK.AllK
import Wide.FinOn
import KE.KStateDown
import HandS.ForMost
import HandS.ForExc
import HandS.More
import HandS.Conv
import HandS.IsInst
import HandS.ExcIs
import HandS.Rev
import HandS.Style
import HandS.SortInts
import HandS.SetFor
import HandS.Wide
import HandS.TupLe
import HandS.Defaults
import HandS.Head0
import HandS.Head1
import HandS.Head2
import HandS.HeadEnd
import HandS.HeadHook1
import HandS.HeadHook2
import PySem.Challenge.RW_turnrow_k07_whole_turns_that_are_words
set_option Elab.async false
set_option linter.all false
set_option maxRecDepth 100000
set_option maxHeartbeats 4000000
/-! The ledger: what stands at the addresses that a def has made; the rest of the heap as it was. -/
namespace Tr
open PySem PySem.Spec PyProof.Rows L2

structure Led (H0 H : Hp) (l : List (Addr × HO)) : Prop where
  same : Same H0 H
  nd : (l.map (·.1)).Nodup
  new : ∀ p ∈ l, H0 p.1 = none
  has : ∀ p ∈ l, H p.1 = some p.2
/-- the tuples stay -/
def Ts (H H' : Hp) : Prop := ∀ b xs, H b = some (.tup xs) → H' b = some (.tup xs)
theorem Ts.refl (H : Hp) : Ts H H := fun _ _ h => h
theorem Ts.trans {A B C : Hp} (a : Ts A B) (b : Ts B C) : Ts A C := fun c xs h => b c xs (a c xs h)
theorem Ts.of {A B : Hp} (h : Same A B) : Ts A B := fun b xs e => h b _ e
theorem Same.push {H : Hp} {p : Addr} {o : HO} (h : H p = none) : Same H (upd H p o) := fun b x e => by
  rw [upd_ne (ne_of_none e h)]
  exact e
theorem Ts.put {H : Hp} {p : Addr} {xs : List V} {o : HO} (h : H p = some (.lst xs)) : Ts H (upd H p o) := fun b ys e => by
  have n : b ≠ p := fun z => by
    subst z
    rw [h] at e
    cases e
  rw [upd_ne n]
  exact e
section
variable {H0 H H' : Hp} {l m : List (Addr × HO)} {p q : Addr} {o o' : HO}
theorem Led.start (H : Hp) : Led H H [] := ⟨Same.refl H, by simp, by simp, by simp⟩
theorem Led.get (L : Led H0 H l) (i : Nat) (h : l[i]? = some (p, o) := by rfl) : H p = some o := L.has (p, o) (List.mem_of_getElem? h)
theorem Led.new' (L : Led H0 H l) (i : Nat) (h : l[i]? = some (p, o) := by rfl) : H0 p = none := L.new (p, o) (List.mem_of_getElem? h)
theorem Led.sq {K : PySem.W.Frag} {xs : List V} (L : Led H0 H l) (i : Nat) (h : l[i]? = some (p, .lst xs) := by rfl) : SqL K H p xs := SqL.of (L.get i h)
theorem Led.tq {K : PySem.W.Frag} {xs : List V} (L : Led H0 H l) (i : Nat) (h : l[i]? = some (p, .tup xs) := by rfl) : SqT K H p xs := SqT.of (L.get i h)
theorem Led.fresh (L : Led H0 H l) (h : H q = none) : q ∉ l.map (·.1) := fun z => by
  obtain ⟨x, hx, e⟩ := List.mem_map.mp z
  have := L.has x hx
  rw [e, h] at this
  cases this
theorem Led.push (L : Led H0 H l) (h : H p = none) : Led H0 (upd H p o) ((p, o) :: l) := by
  have h0 : H0 p = none := L.same.free h
  refine ⟨L.same.trans (Same.push h), ?_, ?_, ?_⟩
  · rw [List.map_cons, List.nodup_cons]
    exact ⟨L.fresh h, L.nd⟩
  · intro x hx
    rcases List.mem_cons.mp hx with rfl | hx
    · exact h0
    · exact L.new x hx
  · intro x hx
    rcases List.mem_cons.mp hx with rfl | hx
    · exact upd_same
    · have e := L.has x hx
      rw [upd_ne (ne_of_none e h)]
      exact e
theorem nodup_at {α β : Type} {l : List (α × β)} {i j : Nat} {a : α} {x y : β} (hn : (l.map (·.1)).Nodup) (h1 : l[i]? = some (a, x)) (h2 : l[j]? = some (a, y)) : i = j := by
  have e1 : (l.map (·.1))[i]? = some a := by rw [List.getElem?_map, h1]; rfl
  have e2 : (l.map (·.1))[j]? = some a := by rw [List.getElem?_map, h2]; rfl
  exact nodup_ix' hn e1 e2
where
  nodup_ix' {α : Type} {N : List α} (hN : N.Nodup) {i j : Nat} {x : α} (a : N[i]? = some x) (b : N[j]? = some x) : i = j := by
    obtain ⟨h1, e1⟩ := List.getElem?_eq_some_iff.mp a
    obtain ⟨h2, e2⟩ := List.getElem?_eq_some_iff.mp b
    exact (List.getElem_inj hN).mp (e1.trans e2.symm)
theorem Led.put (L : Led H0 H l) (i : Nat) (h : l[i]? = some (p, o)) : Led H0 (upd H p o') (l.set i (p, o')) := by
  have hp0 : H0 p = none := L.new' i h
  have hi : i < l.length := (List.getElem?_eq_some_iff.mp h).1
  have ek : (l.set i (p, o')).map (·.1) = l.map (·.1) := by
    apply List.ext_getElem?
    intro j
    rw [List.getElem?_map, List.getElem?_map, List.getElem?_set]
    by_cases e : i = j
    · subst e
      rw [if_pos rfl, if_pos hi, h]
      rfl
    · rw [if_neg e]
  refine ⟨fun b x e => ?_, ?_, ?_, ?_⟩
  · have n : b ≠ p := fun z => by
      subst z
      rw [hp0] at e
      cases e
    rw [upd_ne n]
    exact L.same b x e
  · rw [ek]
    exact L.nd
  · intro x hx
    rcases List.mem_or_eq_of_mem_set hx with hx | rfl
    · exact L.new x hx
    · exact hp0
  · intro x hx
    obtain ⟨j, hj⟩ := List.mem_iff_getElem?.mp hx
    rw [List.getElem?_set] at hj
    by_cases e : i = j
    · subst e
      rw [if_pos rfl, if_pos hi] at hj
      cases hj
      exact upd_same
    · rw [if_neg e] at hj
      have hx2 := L.get (p := x.1) (o := x.2) j hj
      have n : x.1 ≠ p := fun z => by
        have hj' : l[j]? = some (p, x.2) := by rw [hj, ← z]
        exact e (nodup_at L.nd h hj')
      rw [upd_ne n]
      exact hx2
theorem Led.call (L : Led H0 H l) (M : Led H H' m) : Led H0 H' (m ++ l) := by
  refine ⟨L.same.trans M.same, ?_, ?_, ?_⟩
  · rw [List.map_append, List.nodup_append]
    refine ⟨M.nd, L.nd, ?_⟩
    intro a ha b hb e
    subst e
    obtain ⟨x, hx, rfl⟩ := List.mem_map.mp ha
    obtain ⟨y, hy, e⟩ := List.mem_map.mp hb
    have e1 := M.new x hx
    have e2 := L.has y hy
    rw [e, e1] at e2
    cases e2
  · intro x hx
    rcases List.mem_append.mp hx with hx | hx
    · exact L.same.free (M.new x hx)
    · exact L.new x hx
  · intro x hx
    rcases List.mem_append.mp hx with hx | hx
    · exact M.has x hx
    · exact M.same _ _ (L.has x hx)
theorem Led.sub (L : Led H0 H l) (h : m.Sublist l) : Led H0 H m :=
  ⟨L.same, L.nd.sublist (h.map _), fun p hp => L.new p (h.mem hp), fun p hp => L.has p (h.mem hp)⟩
theorem Led.drop1 (L : Led H0 H (m ++ l)) : Led H0 H l := L.sub (List.sublist_append_right m l)
theorem Led.tail {x : Addr × HO} (L : Led H0 H (x :: l)) : Led H0 H l := L.sub (List.sublist_cons_self x l)
theorem Led.perm (L : Led H0 H l) (h : m.Perm l) : Led H0 H m :=
  ⟨L.same, (h.map _).nodup_iff.mpr L.nd, fun p hp => L.new p (h.mem_iff.mp hp), fun p hp => L.has p (h.mem_iff.mp hp)⟩
theorem Led.to (L : Led H0 H l) (e : l = m) : Led H0 H m := e ▸ L
theorem Led.ne (L : Led H0 H l) (hp : H0 p ≠ none) (i : Nat) (h : l[i]? = some (q, o)) : p ≠ q := fun z => by
  subst z
  exact hp (L.new' i h)
theorem Led.seq {K : PySem.W.Frag} {a : Addr} {xs : List V} (L : Led H0 H l) (h : SqL K H0 a xs) : SqL K H a xs := L.same.seq h
theorem Led.ts (L : Led H0 H l) : Ts H0 H := Ts.of L.same
end
theorem sz {n m : Nat} (h : n ≤ m) (hm : m ≤ 1000000 := by omega) : n ≤ sizeLine := by
  rw [sizeLine_eq]
  omega
theorem szl {n m : Nat} (h : n ≤ m) (hm : m ≤ 1000000 := by omega) : n < sizeLine := by
  rw [sizeLine_eq]
  omega

/-! ### a def by its name -/
/-- the function object of a name -/
def HasFd (K : PySem.W.Frag) (x : Str) (fd : FuncData) : Prop := ∃ oc od osl, K.lookup (He.ga K x) = some ⟨oc, od, .func fd, osl⟩
theorem HasFd.same {K : PySem.W.Frag} {x : Str} {fd fd' : FuncData} (h : HasFd K x fd) (h' : HasFd K x fd') : fd = fd' := by
  obtain ⟨a, b, c, e⟩ := h
  obtain ⟨a', b', c', e'⟩ := h'
  rw [e] at e'
  cases e'
  rfl
structure Fn (P : Program) (w : World) (K : PySem.W.Frag) (mg : Str → Option Value) (base : Heap) (CX : CXT) (k : Nat) (x : Str) (ps : List Str) (sp : Sp) : Prop where
  ex : ∃ fd, FnOk P w K mg base CX k (He.ga K x) fd ps sp ∧ Binds K fd ps [] ∧ HasFd K x fd
  gl : mg x = some (.ref (He.ga K x))
  kp : PySem.W.keepIn K (.ref (He.ga K x)) = true
theorem Fn.mono {P : Program} {w : World} {K : PySem.W.Frag} {mg : Str → Option Value} {base : Heap} {CX : CXT} {j k : Nat} {x : Str} {ps : List Str} {sp : Sp} (F : Fn P w K mg base CX j x ps sp) (h : j ≤ k) : Fn P w K mg base CX k x ps sp := by
  obtain ⟨⟨fd, a, b, e⟩, c, d⟩ := F
  exact ⟨⟨fd, a.mono h, b, e⟩, c, d⟩
/-- a def of the text -/
structure Txt1 (K : PySem.W.Frag) (mg : Str → Option Value) (x : Str) (st : Stmt) (ps : List Str) : Prop where
  ex : ∃ fd, FunD K x x (defArgs st) (defBody st) (defScope st) [] [] (He.ga K x) fd ∧ Binds K fd ps []
  gl : mg x = some (.ref (He.ga K x))
theorem fnOf1 {P : Program} {w : World} {K : PySem.W.Frag} {mg : Str → Option Value} {base : Heap} {CX : CXT} {k : Nat} {x : Str} {st : Stmt} {N ps : List Str} {sp : Sp} (F : Txt1 K mg x st ps) (S : FnScope N ps (defScope st)) (len : ∀ vs H Q E, sp vs H Q E → vs.length = ps.length)
    (hbody : ∀ (f : Addr) (cdv : Value) (A : Around) (outer : List Env) (s : Shared) (H : Hp) (vs : List V) (Q : VK) (E : XK), Room k (A.deeper (envOfC x (defScope st) s.heap.objs.size f cdv)) → sp vs H Q E →
      ∃ t, PSs (cxOf CX P w K mg base N x (defScope st) f cdv A outer s H E) (defBody st) t ∧ t { nx := fun _ H' => Q .non H', rt := Q } (start N vs) H) : Fn P w K mg base CX (k + 1) x ps sp := by
  obtain ⟨⟨fd, F1, b⟩, g⟩ := F
  obtain ⟨oc, od, _, _, _, _, _, _, _, osl, _, lk, _⟩ := id F1.ex
  exact ⟨⟨fd, F1.ok S len fun cdv A outer s H vs Q E hr h => hbody _ cdv A outer s H vs Q E hr h, b, oc, od, osl, lk⟩, g, F1.kp⟩
def tCallF (sp : Sp) (E : XK) (t : TA) : TE := fun σ H Q => t σ H fun vs H1 => sp vs H1 Q E
section
variable {X : Cx} {CX : CXT} {k : Nat} {ps : List Str} {sp : Sp} {E : XK} {x : Str} {p pos : Pos} {e : Expr} {es : List Expr} {t : TA}
theorem pe_callF (F : Fn X.prog X.w X.K X.mg X.base CX k x ps sp) (hr : Room k X.A) (hg : Gl X x) (hx : Passes CX X E) (ha : PA X (e :: es) t) (hdb : (x == ("__debug__" : Str)) = false := by decide)
    (he : starEach (e :: es) X.env = (false, eval e X.env) :: starEach es X.env := by rfl) (hpl : (backTo pos (starEach es X.env)).any (·.1) = false := by rfl) : PE X (.Call (.Name x p) (e :: es) [] pos) (tCallF sp E t) := by
  obtain ⟨⟨fd, a, b, _⟩, c, d⟩ := F
  have h := pe_call (p := p) (pos := pos) a hr hg c d b .nil hx ha hdb he hpl
  refine ⟨fun pins s σ H Q I q => h.run pins s σ H Q I ?_⟩
  have q' : t σ H fun vs H1 => sp vs H1 Q E := q
  show t σ H fun vs H1 => sp (vs ++ []) H1 Q E
  simpa only [List.append_nil] using q'
def tCallG (sp : Sp) (E : L2.St → XK) (t : TA) : TE := fun σ H Q => t σ H fun vs H1 => sp vs H1 Q (E σ)
theorem pe_callG {E : L2.St → XK} (F : Fn X.prog X.w X.K X.mg X.base CX k x ps sp) (hr : Room k X.A) (hg : Gl X x) (hx : ∀ σ, PassesAt CX X σ (E σ)) (ha : PA X (e :: es) t) (hdb : (x == ("__debug__" : Str)) = false := by decide)
    (he : starEach (e :: es) X.env = (false, eval e X.env) :: starEach es X.env := by rfl) (hpl : (backTo pos (starEach es X.env)).any (·.1) = false := by rfl) : PE X (.Call (.Name x p) (e :: es) [] pos) (tCallG sp E t) := by
  obtain ⟨⟨fd, a, b, _⟩, c, d⟩ := F
  have h := pe_callS (p := p) (pos := pos) (E := E) a hr hg c d b hx ha hdb he hpl
  exact ⟨fun pins s σ H Q I q => h.run pins s σ H Q I q⟩
end
end Tr
/-! The readings, step by step. -/
namespace Tr
open PySem PySem.Spec PyProof.Rows L2
section
variable {t u : TS} {te ta tb : TE} {D : Ends} {σ : L2.St} {H : Hp} {Q : VK} {g : TG} {i : Nat} {v x y : V} {c d : TT} {QB : Bool → Hp → Prop} {K : PySem.W.Frag}
theorem rd_seq (h : t { D with nx := u D } σ H) : tSeq t u D σ H := h
theorem rd_next (h : D.nx σ H) : tNext D σ H := h
theorem rd_brk (h : D.bk σ H) : tBreak D σ H := h
theorem rd_asg (h : te σ H fun x H1 => g x σ H1 D.nx) : tAsg te g D σ H := h
theorem rd_drop (h : te σ H fun _ H1 => D.nx σ H1) : tDrop te D σ H := h
theorem rd_ret (h : te σ H D.rt) : tRet te D σ H := h
theorem rd_retN (h : D.rt .non H) : tRetN D σ H := h
theorem rd_name {R : L2.St → Hp → Prop} (h : R (σ.set i (some v)) H) : gName i v σ H R := h
theorem rd_ifS (h : c σ H fun b H1 => if b = true then t D σ H1 else u D σ H1) : tIfS c t u D σ H := h
/-- a truth value that a test asks for -/
def isB (x : V) (p : Bool → Prop) : Prop := ∃ k, x = .bl k ∧ p k
theorem rd_isB {b : Bool} {p : Bool → Prop} (h : p b) : isB (.bl b) p := ⟨b, rfl, h⟩
theorem rd_test (h : te σ H fun x H1 => isB x fun k => QB k H1) : tTest te σ H QB := h
theorem rd_testB (h : te σ H fun x H1 => isB x fun k => QB k H1) : tB te σ H QB := h
theorem rd_and (h : c σ H fun b H1 => if b = true then d σ H1 QB else QB false H1) : tAnd c d σ H QB := h
theorem rd_or (h : c σ H fun b H1 => if b = true then QB true H1 else d σ H1 QB) : tOr c d σ H QB := h
theorem rd_not (h : c σ H fun b H1 => QB (!b) H1) : tNot c σ H QB := h
theorem rd_andV (h : ta σ H fun x H1 => isB x fun b => if b = true then tb σ H1 Q else Q (.bl false) H1) : tAndV ta tb σ H Q := h
theorem rd_orV (h : ta σ H fun x H1 => isB x fun b => if b = true then Q (.bl true) H1 else tb σ H1 Q) : tOrV ta tb σ H Q := h
theorem rd_notV (h : ta σ H fun x H1 => isB x fun b => Q (.bl (!b)) H1) : tNotV ta σ H Q := h
theorem rd_var (h : σ[i]? = some (some v)) (q : Q v H) : tVar i σ H Q := ⟨v, h, q⟩
theorem rd_c (q : Q v H) : tC v σ H Q := q
theorem rd_op {r : R2} (h : ta σ H fun x H1 => tb σ H1 fun y H2 => r x y H2 Q) : tOp r ta tb σ H Q := h
theorem rd_un {r : V → Hp → VK → Prop} (h : ta σ H fun x H1 => r x H1 Q) : tUn r ta σ H Q := h
variable {tA tR : TA} {QA : List V → Hp → Prop} {sp : Sp} {E : XK} {r : List V → Hp → VK → Prop}
theorem rd_nil (h : QA [] H) : tNil σ H QA := h
theorem rd_cons (h : te σ H fun x H1 => tR σ H1 fun xs H2 => QA (x :: xs) H2) : tCons te tR σ H QA := h
theorem rd_call (h : tA σ H fun vs H1 => sp vs H1 Q E) : tCallF sp E tA σ H Q := h
theorem rd_callG {E : L2.St → XK} (h : tA σ H fun vs H1 => sp vs H1 Q (E σ)) : tCallG sp E tA σ H Q := h
theorem rd_CB (h : tA σ H fun vs H1 => r vs H1 Q) : tCB r tA σ H Q := h
theorem rd_BM {T : String} {r : V → List V → Hp → VK → Prop} (h : te σ H fun x H1 => tyV K T x H1 ∧ tA σ H1 fun xs H2 => r x xs H2 Q) : tBM K T r te tA σ H Q := h
theorem rd_BM0 {T : String} {r : V → List V → Hp → VK → Prop} (h : te σ H fun x H1 => tyV K T x H1 ∧ r x [] H1 Q) : tBM0 K T r te σ H Q := h
theorem rd_ty {a : Addr} {xs : List V} {p : Prop} (h : SqL K H a xs) (q : p) : tyV K "list" (.ref a) H ∧ p := ⟨.inl ⟨rfl, _, h⟩, q⟩
theorem rd_tyS {z : Str} {p : Prop} (q : p) : tyV K "str" (.str z) H ∧ p := ⟨rfl, q⟩
theorem rd_sl {r : V → Option Int → Option Int → Hp → VK → Prop} {tl th : TO} (h : te σ H fun x H1 => tl σ H1 fun l H2 => th σ H2 fun u H3 => r x l u H3 Q) : tSl r te tl th σ H Q := h
theorem rd_noP {QO : Option Int → Hp → Prop} (h : QO none H) : tNoPart σ H QO := h
/-- an int that is asked for -/
def isI (x : V) (p : Int → Prop) : Prop := ∃ k, x = .int k ∧ p k
theorem rd_isI {n : Int} {p : Int → Prop} (h : p n) : isI (.int n) p := ⟨n, rfl, h⟩
theorem rd_part {QO : Option Int → Hp → Prop} (h : te σ H fun x H1 => isI x fun n => QO (some n) H1) : tPart te σ H QO := h
/-! ### values -/
theorem rd_i0 {f : Int → Int → V} {n m : Int} (q : Q (f n m) H) : rI0 f (.int n) (.int m) H Q := ⟨n, m, rfl, rfl, q⟩
theorem rd_i {C : Int → Int → Prop} {f : Int → Int → V} {n m : Int} (hc : C n m) (q : Q (f n m) H) : rI C f (.int n) (.int m) H Q := ⟨n, m, rfl, rfl, hc, q⟩
theorem rd_u {f : Int → V} {n : Int} (q : Q (f n) H) : rU f (.int n) H Q := ⟨n, rfl, q⟩
end

/-! ### + : ints, lists, texts -/
def rAddS : R2 := fun x y H Q => ∃ i j, x = .str i ∧ y = .str j ∧ i.length + j.length ≤ sizeLine ∧ Q (.str (i ++ j)) H
def gAdd : R2 := fun x y H Q => rI0 (fun i j => .int (i + j)) x y H Q ∨ rCat x y H Q ∨ rAddS x y H Q
theorem op_gAdd {X : Cx} : OpR X (binaryOp .Add) gAdd := op_add.or (op_cat.or (r' := rAddS) op_add_str)
def gSub : R2 := rI0 fun i j => .int (i - j)
theorem op_gSub {X : Cx} : OpR X (binaryOp .Sub) gSub := op_sub
def gMul : R2 := rI IntMulOk fun i j => .int (i * j)
theorem op_gMul {X : Cx} : OpR X (binaryOp .Mult) gMul := opI fun _ _ _ _ _ _ _ hc q => mul_int q hc
def gDiv : R2 := rI CDivW fun i j => .int (i / j)
theorem op_gDiv {X : Cx} : OpR X (binaryOp .FloorDiv) gDiv := op_fdivW
def gMod : R2 := rI (fun _ j => 0 < j) fun i j => .int (i % j)
theorem op_gMod {X : Cx} : OpR X (binaryOp .Mod) gMod := op_mod
def gLt : R2 := rI0 fun i j => .bl (decide (i < j))
theorem op_gLt {X : Cx} : OpR X (compareOp .Lt) gLt := op_lt
def gLe : R2 := rI0 fun i j => .bl (decide (i ≤ j))
theorem op_gLe {X : Cx} : OpR X (compareOp .LtE) gLe := op_le
def gGt : R2 := rI0 fun i j => .bl (decide (j < i))
theorem op_gGt {X : Cx} : OpR X (compareOp .Gt) gGt := op_gt
def gGe : R2 := rI0 fun i j => .bl (decide (j ≤ i))
theorem op_gGe {X : Cx} : OpR X (compareOp .GtE) gGe := op_ge
def gEq (K : PySem.W.Frag) : R2 := fun x y H Q => rEq x y H Q ∨ rEqD K x y H Q
theorem op_gEq {X : Cx} (hu : X.A.units + 64 < cLine) : OpR X (compareOp .Eq) (gEq X.K) := op_eq.or (op_eqD hu)
def gNe (K : PySem.W.Frag) : R2 := fun x y H Q => rNe x y H Q ∨ rNeD K x y H Q
theorem op_gNe {X : Cx} (hu : X.A.units + 64 < cLine) : OpR X (compareOp .NotEq) (gNe X.K) := op_ne.or (op_neD hu)
def gIsN : R2 := fun x y H Q => y = .non ∧ Q (.bl (decide (x = .non))) H
theorem op_gIsN {X : Cx} : OpR X (compareOp .Is) gIsN := op_isN
def gNeg : V → Hp → VK → Prop := rU fun i => .int (-i)
theorem op_gNeg {X : Cx} : UnR X (unaryOp .USub) gNeg := un_neg
section
variable {H0 H : Hp} {l : List (Addr × HO)} {Q : VK} {K : PySem.W.Frag} {p q a : Addr} {xs ys : List V} {n m : Int} {x y : V}
theorem rd_addI (h : Q (.int (n + m)) H) : gAdd (.int n) (.int m) H Q := .inl ⟨n, m, rfl, rfl, h⟩
theorem rd_addS {z w : Str} (hz : z.length + w.length ≤ sizeLine) (h : Q (.str (z ++ w)) H) : gAdd (.str z) (.str w) H Q := .inr (.inr ⟨z, w, rfl, rfl, hz, h⟩)
theorem rd_addL (L : Led H0 H l) (hp : H p = some (.lst xs)) (hq : H q = some (.lst ys)) (hz : xs.length + ys.length ≤ sizeLine) (h : ∀ r H', Led H0 H' ((r, .lst (xs ++ ys)) :: l) → Ts H H' → Q (.ref r) H') : gAdd (.ref p) (.ref q) H Q :=
  .inr (.inl ⟨p, q, xs, ys, rfl, rfl, hp, hq, hz, fun r hr => h r _ (L.push hr) (Ts.of (Same.push hr))⟩)
theorem rd_sub (h : Q (.int (n - m)) H) : gSub (.int n) (.int m) H Q := ⟨n, m, rfl, rfl, h⟩
theorem rd_mulL (h1 : -(2 ^ 64) < n) (h2 : n < 2 ^ 64) (h : Q (.int (n * m)) H) : gMul (.int n) (.int m) H Q := ⟨n, m, rfl, rfl, .of_left (intBits_le_64 h1 h2), h⟩
theorem rd_mulR (h1 : -(2 ^ 64) < m) (h2 : m < 2 ^ 64) (h : Q (.int (n * m)) H) : gMul (.int n) (.int m) H Q := ⟨n, m, rfl, rfl, .of_right (intBits_le_64 h1 h2), h⟩
theorem rd_mulW (hc : CMulW n m) (h : Q (.int (n * m)) H) : gMul (.int n) (.int m) H Q := ⟨n, m, rfl, rfl, hc.ok, h⟩
theorem rd_mul (hc : IntMulOk n m) (h : Q (.int (n * m)) H) : gMul (.int n) (.int m) H Q := ⟨n, m, rfl, rfl, hc, h⟩
theorem rd_div (hc : CDivW n m) (h : Q (.int (n / m)) H) : gDiv (.int n) (.int m) H Q := ⟨n, m, rfl, rfl, hc, h⟩
theorem rd_divK (h1 : (0 : Int) < m) (h2 : m < 1000000000000) (h : Q (.int (n / m)) H) : gDiv (.int n) (.int m) H Q :=
  ⟨n, m, rfl, rfl, wide_div (b := 40) h1 (by rw [show (2 : Nat) ^ 40 = 1099511627776 from by decide]; omega) (by decide) (by decide), h⟩
theorem rd_mod (hc : 0 < m) (h : Q (.int (n % m)) H) : gMod (.int n) (.int m) H Q := ⟨n, m, rfl, rfl, hc, h⟩
theorem rd_lt (h : Q (.bl (decide (n < m))) H) : gLt (.int n) (.int m) H Q := ⟨n, m, rfl, rfl, h⟩
theorem rd_le (h : Q (.bl (decide (n ≤ m))) H) : gLe (.int n) (.int m) H Q := ⟨n, m, rfl, rfl, h⟩
theorem rd_gt (h : Q (.bl (decide (m < n))) H) : gGt (.int n) (.int m) H Q := ⟨n, m, rfl, rfl, h⟩
theorem rd_ge (h : Q (.bl (decide (m ≤ n))) H) : gGe (.int n) (.int m) H Q := ⟨n, m, rfl, rfl, h⟩
theorem rd_neg (h : Q (.int (-n)) H) : gNeg (.int n) H Q := ⟨n, rfl, h⟩
theorem rd_eqI (h : Q (.bl (decide (n = m))) H) : gEq K (.int n) (.int m) H Q := .inl ⟨rfl, by simpa using h⟩
theorem rd_neI (h : Q (.bl (!decide (n = m))) H) : gNe K (.int n) (.int m) H Q := .inl ⟨rfl, by simpa using h⟩
theorem rd_eqS {z w : Str} (h : Q (.bl (decide (z = w))) H) : gEq K (.str z) (.str w) H Q := .inl ⟨rfl, by simpa using h⟩
theorem rd_neS {z w : Str} (h : Q (.bl (!decide (z = w))) H) : gNe K (.str z) (.str w) H Q := .inl ⟨rfl, by simpa using h⟩
theorem rd_eqB {z w : Bool} (h : Q (.bl (decide (z = w))) H) : gEq K (.bl z) (.bl w) H Q := .inl ⟨rfl, by simpa using h⟩
theorem rd_neB {z w : Bool} (h : Q (.bl (!decide (z = w))) H) : gNe K (.bl z) (.bl w) H Q := .inl ⟨rfl, by simpa using h⟩
theorem rd_isN (h : Q (.bl (decide (x = .non))) H) : gIsN x .non H Q := ⟨rfl, h⟩
theorem rd_eqD {d e : PyData} (hd : Dp K H x d) (he : Dp K H y e) (s1 : SeqAt.shaped d = true) (s2 : SeqAt.shaped e = true) (h : Q (.bl (PyData.eqv d e)) H) : gEq K x y H Q := .inr ⟨d, e, hd, he, s1, s2, h⟩
theorem rd_neD {d e : PyData} (hd : Dp K H x d) (he : Dp K H y e) (s1 : SeqAt.shaped d = true) (s2 : SeqAt.shaped e = true) (h : Q (.bl (!PyData.eqv d e)) H) : gNe K x y H Q := .inr ⟨d, e, hd, he, s1, s2, h⟩
/-! ### new lists and tuples -/
variable {σ : L2.St} {tA : TA} {QA : List V → Hp → Prop} {te : TE}
/-- a new list | tuple of these -/
def mkL (xs : List V) (H : Hp) (Q : VK) : Prop := xs.length ≤ sizeLine ∧ ∀ p, H p = none → Q (.ref p) (upd H p (.lst xs))
def mkT (xs : List V) (H : Hp) (Q : VK) : Prop := xs.length ≤ sizeLine ∧ ∀ p, H p = none → Q (.ref p) (upd H p (.tup xs))
theorem rd_lst (h : tA σ H fun xs H1 => mkL xs H1 Q) : tLst tA σ H Q := h
theorem rd_tup (h : tA σ H fun xs H1 => mkT xs H1 Q) : tTup tA σ H Q := h
theorem rd_mkL (L : Led H0 H l) (hz : xs.length ≤ sizeLine) (h : ∀ p H', Led H0 H' ((p, .lst xs) :: l) → Ts H H' → Q (.ref p) H') : mkL xs H Q := ⟨hz, fun p hp => h p _ (L.push hp) (Ts.of (Same.push hp))⟩
theorem rd_mkT (L : Led H0 H l) (hz : xs.length ≤ sizeLine) (h : ∀ p H', Led H0 H' ((p, .tup xs) :: l) → Ts H H' → Q (.ref p) H') : mkT xs H Q := ⟨hz, fun p hp => h p _ (L.push hp) (Ts.of (Same.push hp))⟩
/-- a slice of a list -/
theorem rd_slL {lo hi : Option Int} (L : Led H0 H l) (hs : SqL K H a xs) (h : ∀ p H', Led H0 H' ((p, .lst (cutV xs lo hi)) :: l) → Ts H H' → Q (.ref p) H') : rSlL K (.ref a) lo hi H Q := ⟨a, xs, rfl, hs, fun p hp => h p _ (L.push hp) (Ts.of (Same.push hp))⟩
/-! ### list methods -/
theorem rd_append (L : Led H0 H l) (i : Nat) (h : l[i]? = some (p, .lst xs)) (hz : xs.length < sizeLine) (k : ∀ H', Led H0 H' (l.set i (p, .lst (xs ++ [y]))) → Ts H H' → Q .non H') : rAppend (.ref p) [y] H Q :=
  ⟨p, xs, y, rfl, rfl, L.get i h, hz, k _ (L.put i h) (Ts.put (L.get i h))⟩
theorem rd_extend {zs : List V} (L : Led H0 H l) (i : Nat) (h : l[i]? = some (p, .lst xs)) (hq : H q = some (.lst zs)) (hz : xs.length + zs.length ≤ sizeLine) (k : ∀ H', Led H0 H' (l.set i (p, .lst (xs ++ zs))) → Ts H H' → Q .non H') : rExtend (.ref p) [.ref q] H Q :=
  ⟨p, q, xs, zs, rfl, rfl, L.get i h, hq, hz, k _ (L.put i h) (Ts.put (L.get i h))⟩
theorem rd_pop (L : Led H0 H l) (i : Nat) (h : l[i]? = some (p, .lst (xs ++ [y]))) (k : ∀ H', Led H0 H' (l.set i (p, .lst xs)) → Ts H H' → Q y H') : rPop (.ref p) [] H Q :=
  ⟨p, xs ++ [y], y, rfl, rfl, L.get i h, by simp, by simpa using k _ (L.put i h) (Ts.put (L.get i h))⟩
theorem rd_reverse (L : Led H0 H l) (i : Nat) (h : l[i]? = some (p, .lst xs)) (k : ∀ H', Led H0 H' (l.set i (p, .lst xs.reverse)) → Ts H H' → Q .non H') : rReverse (.ref p) [] H Q :=
  ⟨p, xs, rfl, rfl, L.get i h, k _ (L.put i h) (Ts.put (L.get i h))⟩
theorem rd_clear (L : Led H0 H l) (i : Nat) (h : l[i]? = some (p, .lst xs)) (k : ∀ H', Led H0 H' (l.set i (p, .lst [])) → Ts H H' → Q .non H') : rClear (.ref p) [] H Q :=
  ⟨p, xs, rfl, rfl, L.get i h, k _ (L.put i h) (Ts.put (L.get i h))⟩
/-! ### subscripts -/
theorem rd_ixL {v : V} (hs : SqL K H a xs) (h : atI xs n = some v) (k : Q v H) : rIx K (.ref a) (.int n) H Q := .inl ⟨a, xs, n, v, rfl, rfl, hs, h, k⟩
theorem rd_ixS {z : Str} {c : Nat} (hz : z.length ≤ sizeLine) (h : atI z.cps.toList n = some c) (k : Q (.str ⟨#[c]⟩) H) : rIx K (.str z) (.int n) H Q := .inr (.inr ⟨z, n, c, rfl, rfl, hz, h, k⟩)
/-! ### built-ins -/
def gLen (K : PySem.W.Frag) : List V → Hp → VK → Prop := fun xs H Q => ∃ x n, xs = [x] ∧ LenV K x H n ∧ Q (.int n) H
theorem cr_len {X : Cx} : CallR X (.builtin "len") (gLen X.K) := call_len
theorem rd_lenL (hs : SqL K H a xs) (k : Q (.int xs.length) H) : gLen K [.ref a] H Q := ⟨_, _, rfl, .inl ⟨xs, hs, rfl⟩, k⟩
theorem rd_lenT (hs : SqT K H a xs) (k : Q (.int xs.length) H) : gLen K [.ref a] H Q := ⟨_, _, rfl, .inr ⟨xs, hs, rfl⟩, k⟩
theorem rd_lenS {z : Str} (hz : z.length ≤ sizeLine) (k : Q (.int z.length) H) : gLen K [.str z] H Q := ⟨_, _, rfl, ⟨hz, rfl⟩, k⟩
def gList (K : PySem.W.Frag) : List V → Hp → VK → Prop := fun xs H Q => ∃ p ys, xs = [.ref p] ∧ (SqL K H p ys ∨ SqT K H p ys) ∧ ∀ l, H l = none → Q (.ref l) (upd H l (.lst ys))
theorem cr_list {X : Cx} : CallR X (.type "list") (gList X.K) := call_list_of
theorem rd_list (L : Led H0 H l) (hs : SqL K H a xs) (k : ∀ p H', Led H0 H' ((p, .lst xs) :: l) → Ts H H' → Q (.ref p) H') : gList K [.ref a] H Q := ⟨a, xs, rfl, .inl hs, fun p hp => k p _ (L.push hp) (Ts.of (Same.push hp))⟩
def gTuple (K : PySem.W.Frag) : List V → Hp → VK → Prop := fun xs H Q => ∃ p ys, xs = [.ref p] ∧ ((SqL K H p ys ∧ ∀ l, H l = none → Q (.ref l) (upd H l (.tup ys))) ∨ (SqT K H p ys ∧ Q (.ref p) H))
theorem cr_tuple {X : Cx} : CallR X (.type "tuple") (gTuple X.K) := call_tuple_of
theorem rd_tuple (L : Led H0 H l) (hs : SqL K H a xs) (k : ∀ p H', Led H0 H' ((p, .tup xs) :: l) → Ts H H' → Q (.ref p) H') : gTuple K [.ref a] H Q := ⟨a, xs, rfl, .inl ⟨hs, fun p hp => k p _ (L.push hp) (Ts.of (Same.push hp))⟩⟩
theorem rd_sum {ns : List Int} (hs : SqL K H a (ns.map V.int)) (k : Q (.int ns.sum) H) : rSum K [.ref a] H Q := ⟨a, ns, rfl, hs, k⟩
theorem rd_max {ns : List Int} (hs : SqL K H a (ns.map V.int)) (h0 : 0 < ns.length) (k : ∀ m, m ∈ ns → (∀ y, y ∈ ns → y ≤ m) → Q (.int m) H) : rMax K [.ref a] H Q := ⟨a, ns, rfl, hs, h0, k⟩
theorem rd_min {ns : List Int} (hs : SqL K H a (ns.map V.int)) (h0 : 0 < ns.length) (k : ∀ m, m ∈ ns → (∀ y, y ∈ ns → m ≤ y) → Q (.int m) H) : rMin K [.ref a] H Q := ⟨a, ns, rfl, hs, h0, k⟩
/-- max, min of a list, or of two ints -/
def gMax (K : PySem.W.Frag) : List V → Hp → VK → Prop := fun xs H Q => rMax K xs H Q ∨ ∃ i j, xs = [.int i, .int j] ∧ Q (.int (if j > i then j else i)) H
theorem cr_gMax {X : Cx} (hc : X.calm = true) : CallR X (.builtin "max") (gMax X.K) := (cr_max hc).or (call_max2 hc)
def gMin (K : PySem.W.Frag) : List V → Hp → VK → Prop := fun xs H Q => rMin K xs H Q ∨ ∃ i j, xs = [.int i, .int j] ∧ Q (.int (if j < i then j else i)) H
theorem cr_gMin {X : Cx} (hc : X.calm = true) : CallR X (.builtin "min") (gMin X.K) := (cr_min hc).or (call_min2 hc)
theorem rd_gMaxL {ns : List Int} (hs : SqL K H a (ns.map V.int)) (h0 : 0 < ns.length) (k : ∀ m, m ∈ ns → (∀ y, y ∈ ns → y ≤ m) → Q (.int m) H) : gMax K [.ref a] H Q := .inl ⟨a, ns, rfl, hs, h0, k⟩
theorem rd_gMinL {ns : List Int} (hs : SqL K H a (ns.map V.int)) (h0 : 0 < ns.length) (k : ∀ m, m ∈ ns → (∀ y, y ∈ ns → m ≤ y) → Q (.int m) H) : gMin K [.ref a] H Q := .inl ⟨a, ns, rfl, hs, h0, k⟩
theorem rd_gMax2 (k : Q (.int (max n m)) H) : gMax K [.int n, .int m] H Q := .inr ⟨n, m, rfl, by
  have e : (if m > n then m else n) = max n m := by split <;> omega
  rw [e]
  exact k⟩
theorem rd_gMin2 (k : Q (.int (min n m)) H) : gMin K [.int n, .int m] H Q := .inr ⟨n, m, rfl, by
  have e : (if m < n then m else n) = min n m := by split <;> omega
  rw [e]
  exact k⟩
def gInt : List V → Hp → VK → Prop := fun xs H Q => (∃ i, xs = [.int i] ∧ Q (.int i) H) ∨ ∃ k, xs = [.bl k] ∧ Q (.int (if k then 1 else 0)) H
theorem cr_int {X : Cx} : CallR X (.type "int") gInt := call_int1
theorem rd_intB {b : Bool} (k : Q (.int (if b then 1 else 0)) H) : gInt [.bl b] H Q := .inr ⟨b, rfl, k⟩
theorem rd_sorted {ns : List Int} (L : Led H0 H l) (hs : SqL K H a (ns.map V.int)) (k : ∀ (ms : List Int) p H', ms.Perm ns → ms.Pairwise (· ≤ ·) → Led H0 H' ((p, .lst (ms.map V.int)) :: l) → Ts H H' → Q (.ref p) H') : rSortedI K [.ref a] H Q :=
  ⟨a, ns, rfl, hs, fun ms p h1 h2 hp => k ms p _ h1 h2 (L.push hp) (Ts.of (Same.push hp))⟩
theorem rd_count {ns : List Int} (hs : SqL K H a (ns.map V.int)) (k : Q (.int (ns.count n : Nat)) H) : rCntI K (.ref a) [.int n] H Q := ⟨a, ns, n, rfl, rfl, hs, k⟩
/-- isinstance -/
theorem rd_isi {T : String} {t : Value} {b : Bool} (ht : TyX K H x t) (hk : PySem.W.kitOne K t (.type T) = some b) (k : Q (.bl b) H) : rIsi K [x, .ty T] H Q := ⟨x, .ty T, t, _, b, rfl, .ty T, ht, hk, k⟩
end
end Tr
/-! Loops, comprehensions, raise and try. -/
namespace Tr
open PySem PySem.Spec PyProof.Rows L2
section
variable {t u : TS} {te tl : TE} {D : Ends} {σ : L2.St} {H H0 : Hp} {Q : VK} {g : TG} {tb : TS} {K : PySem.W.Frag} {a : Addr} {xs : List V} {wi : TI} {J : It} {R : It → Hp → Prop} {l : List (Addr × HO)}
/-- a loop over what has come -/
def lp (J : It) (g : TG) (tb : TS) : TS := tFor (fun _ H R => R J H) g tb
theorem rd_for (h : wi σ H fun J H1 => lp J g tb D σ H1) : tFor wi g tb D σ H := h
def itL (K : PySem.W.Frag) (x : V) (H : Hp) (R : It → Hp → Prop) : Prop := ∃ a, x = .ref a ∧ (∃ xs, SqL K H a xs) ∧ R (Itl K a) H
def itT (K : PySem.W.Frag) (x : V) (H : Hp) (R : It → Hp → Prop) : Prop := ∃ a, x = .ref a ∧ (∃ xs, SqT K H a xs) ∧ R (Itt K a) H
def itS (x : V) (H : Hp) (R : It → Hp → Prop) : Prop := ∃ z, x = .str z ∧ R (Its z) H
theorem rd_iList (h : tl σ H fun x H1 => itL K x H1 R) : iList K tl σ H R := h
theorem rd_iTup (h : tl σ H fun x H1 => itT K x H1 R) : iTup K tl σ H R := h
theorem rd_iStr (h : tl σ H fun x H1 => itS x H1 R) : iStr tl σ H R := h
theorem rd_itL (hs : SqL K H a xs) (h : R (Itl K a) H) : itL K (.ref a) H R := ⟨a, rfl, ⟨xs, hs⟩, h⟩
theorem rd_itT (hs : SqT K H a xs) (h : R (Itt K a) H) : itT K (.ref a) H R := ⟨a, rfl, ⟨xs, hs⟩, h⟩
theorem rd_itS {z : Str} (h : R (Its z) H) : itS (.str z) H R := ⟨z, rfl, h⟩
variable {tA : TA}
def itR1 (vs : List V) (H : Hp) (R : It → Hp → Prop) : Prop := ∃ j : Int, vs = [.int j] ∧ -(2 ^ 62) ≤ j ∧ j < 2 ^ 62 ∧ R (Itr 0 j.toNat) H
def itR2 (vs : List V) (H : Hp) (R : It → Hp → Prop) : Prop := ∃ i j : Int, vs = [.int i, .int j] ∧ (-(2 ^ 62) ≤ i ∧ i < 2 ^ 62 ∧ -(2 ^ 62) ≤ j ∧ j < 2 ^ 62) ∧ R (Itr i (j - i).toNat) H
def itR3 (vs : List V) (H : Hp) (R : It → Hp → Prop) : Prop := ∃ (i j c : Int) (n : Nat), vs = [.int i, .int j, .int c] ∧ RgC i j c n ∧ R (Itc i c n) H
theorem rd_iRng1 (h : tA σ H fun vs H1 => itR1 vs H1 R) : iRng1 tA σ H R := h
theorem rd_iRng2 (h : tA σ H fun vs H1 => itR2 vs H1 R) : iRng2 tA σ H R := h
theorem rd_iRng3 (h : tA σ H fun vs H1 => itR3 vs H1 R) : iRng3 tA σ H R := h
theorem rd_itR1 {j : Int} (n : Nat) (e : j.toNat = n) (h1 : -(2 ^ 62) ≤ j) (h2 : j < 2 ^ 62) (h : R (Itr 0 n) H) : itR1 [.int j] H R := ⟨j, rfl, h1, h2, e ▸ h⟩
theorem rd_itR2 {i j : Int} (n : Nat) (e : (j - i).toNat = n) (h1 : -(2 ^ 62) ≤ i ∧ i < 2 ^ 62 ∧ -(2 ^ 62) ≤ j ∧ j < 2 ^ 62) (h : R (Itr i n) H) : itR2 [.int i, .int j] H R := ⟨i, j, rfl, h1, e ▸ h⟩
theorem rd_itRd {i j : Int} (n : Nat) (e : (i - j).toNat = n) (h1 : -(2 ^ 62) ≤ i) (h2 : i < 2 ^ 62) (h3 : -(2 ^ 62) ≤ j) (h4 : j < 2 ^ 62) (h : R (Itc i (-1) n) H) : itR3 [.int i, .int j, .int (-1)] H R := ⟨i, j, -1, n, rfl, e ▸ RgC.neg h1 h2 h3 h4, h⟩
def itV (K : PySem.W.Frag) (v : V) (H : Hp) (R : It → Hp → Prop) : Prop := ∃ (a : Addr) (xs : List V), v = .ref a ∧ ((SqL K H a xs ∧ R (Itv K a xs.length) H) ∨ (SqT K H a xs ∧ R (RT.ItvT K a xs.length) H))
theorem rd_iRev (h : te σ H fun v H1 => itV K v H1 R) : RT.iRevA K te σ H R := h
theorem rd_itV (hs : SqL K H a xs) (h : R (Itv K a xs.length) H) : itV K (.ref a) H R := ⟨a, xs, rfl, .inl ⟨hs, h⟩⟩
/-! ### the loops -/
abbrev Turn1 (tb : TS) (D : Ends) (N : L2.St → Hp → Prop) : L2.St → Hp → Prop := tb { D with nx := N, ct := N, bk := D.nx }
theorem lp_list (Pv : Nat → L2.St → Hp → Prop) (h0 : Pv 0 σ H) (hl : ∀ i σ H, i ≤ xs.length → Pv i σ H → SqL K H a xs)
    (hs : ∀ i x σ H, xs[i]? = some x → Pv i σ H → g x σ H (Turn1 tb D (Pv (i + 1)))) (hd : ∀ σ H, Pv xs.length σ H → D.nx σ H) : lp (Itl K a) g tb D σ H := for_list Pv h0 hl hs hd
theorem lp_ints {ns : List Int} (Pv : Nat → L2.St → Hp → Prop) (h0 : Pv 0 σ H) (hl : ∀ i σ H, i ≤ ns.length → Pv i σ H → SqL K H a (ns.map V.int))
    (hs : ∀ i n σ H, ns[i]? = some n → Pv i σ H → g (.int n) σ H (Turn1 tb D (Pv (i + 1)))) (hd : ∀ σ H, Pv ns.length σ H → D.nx σ H) : lp (Itl K a) g tb D σ H := by
  refine lp_list (xs := ns.map V.int) Pv h0 (fun i σ H hi => hl i σ H (by simpa using hi)) (fun i x σ H hx hp => ?_) (fun σ H h => hd σ H (by simpa using h))
  rw [List.getElem?_map] at hx
  cases e : ns[i]? with
  | none => rw [e] at hx; cases hx
  | some n =>
    rw [e] at hx
    cases hx
    exact hs i n σ H e hp
theorem lp_tup (Pv : Nat → L2.St → Hp → Prop) (h0 : Pv 0 σ H) (hl : ∀ i σ H, i ≤ xs.length → Pv i σ H → SqT K H a xs)
    (hs : ∀ i x σ H, xs[i]? = some x → Pv i σ H → g x σ H (Turn1 tb D (Pv (i + 1)))) (hd : ∀ σ H, Pv xs.length σ H → D.nx σ H) : lp (Itt K a) g tb D σ H := for_tup Pv h0 hl hs hd
theorem lp_rng {lo : Int} {n : Nat} (Pv : Nat → L2.St → Hp → Prop) (h0 : Pv 0 σ H)
    (hs : ∀ i σ H, i < n → Pv i σ H → g (.int (lo + i)) σ H (Turn1 tb D (Pv (i + 1)))) (hd : ∀ σ H, Pv n σ H → D.nx σ H) : lp (Itr lo n) g tb D σ H := for_range Pv h0 hs hd
theorem lp_rng0 {n : Nat} (Pv : Nat → L2.St → Hp → Prop) (h0 : Pv 0 σ H)
    (hs : ∀ i σ H, i < n → Pv i σ H → g (.int (i : Nat)) σ H (Turn1 tb D (Pv (i + 1)))) (hd : ∀ σ H, Pv n σ H → D.nx σ H) : lp (Itr 0 n) g tb D σ H := for_range Pv h0 (fun i σ H hi hp => by
      have e : (0 : Int) + (i : Nat) = (i : Nat) := by omega
      rw [e]
      exact hs i σ H hi hp) hd
theorem lp_rngC {lo c : Int} {n : Nat} (Pv : Nat → L2.St → Hp → Prop) (h0 : Pv 0 σ H)
    (hs : ∀ i σ H, i < n → Pv i σ H → g (.int (lo + (i : Nat) * c)) σ H (Turn1 tb D (Pv (i + 1)))) (hd : ∀ σ H, Pv n σ H → D.nx σ H) : lp (Itc lo c n) g tb D σ H := for_rangeC Pv h0 hs hd
theorem lp_rev (Pv : Nat → L2.St → Hp → Prop) (h0 : Pv 0 σ H) (hq : ∀ i σ H, Pv i σ H → SqL K H a xs)
    (hs : ∀ (i : Nat) (x : V) (σ : L2.St) (H : Hp), i < xs.length → xs[xs.length - 1 - i]? = some x → Pv i σ H → g x σ H (Turn1 tb D (Pv (i + 1)))) (hd : ∀ σ H, Pv xs.length σ H → D.nx σ H) : lp (Itv K a xs.length) g tb D σ H := RT.for_Itv Pv h0 hq hs hd
theorem lp_str {z : Str} (Pv : Nat → L2.St → Hp → Prop) (h0 : Pv 0 σ H)
    (hs : ∀ i c σ H, z.cps[i]? = some c → Pv i σ H → g (.str ⟨#[c]⟩) σ H (Turn1 tb D (Pv (i + 1)))) (hd : ∀ σ H, Pv z.cps.size σ H → D.nx σ H) : lp (Its z) g tb D σ H := by
  refine ⟨fun i m σ H => m = z.cps.size - i ∧ i ≤ z.cps.size ∧ Pv i σ H, ⟨z.cps.size, by simp, Nat.zero_le _, h0⟩, ?_⟩
  rintro i m σ H ⟨rfl, hi, p⟩
  by_cases hlt : i < z.cps.size
  · refine .inr ⟨hlt, Pv (i + 1), fun σ' H' p' => ⟨z.cps.size - (i + 1), by omega, rfl, hlt, p'⟩, fun x H' y => ?_⟩
    obtain ⟨e, c, hc, y⟩ := y
    subst e y
    exact hs i c σ _ hc p
  · have e : i = z.cps.size := by omega
    subst e
    exact .inl ⟨Nat.le_refl _, hd σ H p⟩
/-- while, by a word and a measure -/
def wTurn (W : Nat → L2.St → Hp → Prop) (m : Nat) (tb : TS) : TS := fun D σ H => ∃ N : L2.St → Hp → Prop, (∀ σ' H', N σ' H' → ∃ m', m' < m ∧ W m' σ' H') ∧ Turn1 tb D N σ H
theorem rd_wTurn {W : Nat → L2.St → Hp → Prop} {m : Nat} (h : Turn1 tb D (fun σ' H' => ∃ m', m' < m ∧ W m' σ' H') σ H) : wTurn W m tb D σ H := ⟨_, fun _ _ p => p, h⟩
theorem rd_while {c : TT} (W : Nat → L2.St → Hp → Prop) (m : Nat) (h0 : W m σ H)
    (hs : ∀ m σ H, W m σ H → c σ H fun b H1 => if b = true then wTurn W m tb D σ H1 else D.nx σ H1) : tWhile c tb D σ H := ⟨W, ⟨m, h0⟩, fun m σ H w => hs m σ H w⟩
/-! ### comprehensions -/
variable {tt : TT} {vs : List Nat}
def lc (J : It) (g : TG) (tt : TT) (te : TE) (vs : List Nat) : TE := tLc (fun _ H R => R J H) g tt te vs
theorem rd_lc (h : wi σ H fun J H1 => lc J g tt te vs σ H1 Q) : tLc wi g tt te vs σ H Q := h
/-- a turn's end: the new item y is put behind -/
def put1 (D : Addr) (N : Hp → Prop) (y : V) (H4 : Hp) : Prop := ∃ acc, H4 D = some (.lst acc) ∧ acc.length < sizeLine ∧ N (upd H4 D (.lst (acc ++ [y])))
theorem rd_put1 {D : Addr} {acc : List V} {N : Hp → Prop} {y : V} (L : Led H0 H l) (i : Nat) (hi : l[i]? = some (D, .lst acc)) (hz : acc.length < sizeLine) (h : ∀ H5, Led H0 H5 (l.set i (D, .lst (acc ++ [y]))) → Ts H H5 → N H5) : put1 D N y H :=
  ⟨acc, L.get i hi, hz, h _ (L.put i hi) (Ts.put (L.get i hi))⟩
theorem lc_rng {lo : Int} {n : Nat} {vs : List Nat} (L : Led H0 H l)
    (h : ∀ D H1, Led H0 H1 ((D, .lst []) :: l) → Ts H H1 → ∃ Pv : Nat → Hp → Prop, Pv 0 H1 ∧
      (∀ i H1, i < n → Pv i H1 → g (.int (lo + (i : Nat))) (wipe σ vs) H1 fun σ2 H2 => wipe σ2 vs = wipe σ vs ∧ tt σ2 H2 fun b H3 => if b = true then te σ2 H3 (put1 D (Pv (i + 1))) else Pv (i + 1) H3) ∧
      (∀ H1, Pv n H1 → Q (.ref D) H1)) : lc (Itr lo n) g tt te vs σ H Q := by
  intro D hD
  obtain ⟨Pv, h0, hs, hd⟩ := h D _ (L.push hD) (Ts.of (Same.push hD))
  exact lc_range Pv h0 hs hd
theorem lc_lst {vs : List Nat} (L : Led H0 H l)
    (h : ∀ D H1, Led H0 H1 ((D, .lst []) :: l) → Ts H H1 → ∃ Pv : Nat → Hp → Prop, Pv 0 H1 ∧ (∀ i H, i ≤ xs.length → Pv i H → SqL K H a xs) ∧
      (∀ i x H1, xs[i]? = some x → Pv i H1 → g x (wipe σ vs) H1 fun σ2 H2 => wipe σ2 vs = wipe σ vs ∧ tt σ2 H2 fun b H3 => if b = true then te σ2 H3 (put1 D (Pv (i + 1))) else Pv (i + 1) H3) ∧
      (∀ H1, Pv xs.length H1 → Q (.ref D) H1)) : lc (Itl K a) g tt te vs σ H Q := by
  intro D hD
  obtain ⟨Pv, h0, hl, hs, hd⟩ := h D _ (L.push hD) (Ts.of (Same.push hD))
  exact L2.lc_list Pv h0 hl hs hd
/-- a list of what f tells of each place -/
def mapW (H0 H : Hp) (l : List (Addr × HO)) (f : Nat → V) (D : Addr) (i : Nat) (H2 : Hp) : Prop := Led H0 H2 ((D, .lst ((List.range i).map f)) :: l) ∧ Ts H H2
theorem rd_mapEnd {f : Nat → V} {i : Nat} {D : Addr} {H3 : Hp} (l' : List (Addr × HO)) (L : Led H0 H3 (l' ++ (D, .lst ((List.range i).map f)) :: l)) (t : Ts H H3) (hi : i < 1000000) {y : V} (e : y = f i) : put1 D (mapW H0 H l f D (i + 1)) y H3 := by
  subst e
  refine rd_put1 L.drop1 0 rfl (by rw [List.length_map, List.length_range]; exact szl (Nat.le_of_lt hi)) fun H5 L5 t5 => ⟨L5.to ?_, t.trans t5⟩
  rw [List.range_succ, List.map_append]
  rfl
theorem lc_map {n : Nat} {vs : List Nat} (f : Nat → V) (L : Led H0 H l)
    (hs : ∀ i D H1, i < n → Led H0 H1 ((D, .lst ((List.range i).map f)) :: l) → Ts H H1 → g (.int (i : Nat)) (wipe σ vs) H1 fun σ2 H2 => wipe σ2 vs = wipe σ vs ∧ tt σ2 H2 fun b H3 => if b = true then te σ2 H3 (put1 D (mapW H0 H l f D (i + 1))) else mapW H0 H l f D (i + 1) H3)
    (hd : ∀ D H1, Led H0 H1 ((D, .lst ((List.range n).map f)) :: l) → Ts H H1 → Q (.ref D) H1) : lc (Itr 0 n) g tt te vs σ H Q := by
  refine lc_rng L fun D H1 L1 t1 => ⟨mapW H0 H l f D, ⟨L1, t1⟩, fun i H2 hi ⟨L2, t2⟩ => ?_, fun H2 ⟨L2, t2⟩ => hd D H2 L2 t2⟩
  have e : (0 : Int) + (i : Nat) = (i : Nat) := by omega
  rw [e]
  exact hs i D H2 hi L2 t2
theorem gName_mono {i : Nat} : ∀ (x : V) (σ : L2.St) (H : Hp) (R R' : L2.St → Hp → Prop), (∀ σ2 H2, R σ2 H2 → R' σ2 H2) → gName i x σ H R → gName i x σ H R' := fun _ _ _ _ _ h q => h _ _ q
theorem tYes_mono : ∀ (σ : L2.St) (H : Hp) (Q Q' : Bool → Hp → Prop), (∀ b H1, Q b H1 → Q' b H1) → tYes σ H Q → tYes σ H Q' := fun _ _ _ _ h q => h _ _ q
theorem rd_yes {QB : Bool → Hp → Prop} (h : QB true H) : tYes σ H QB := h
end
/-! ### raise -/
structure ExcT (K : PySem.W.Frag) (mg : Str → Option Value) (x : Str) : Prop where
  gl : mg x = some (.ref (He.ga K x))
  xc : PySem.W.excIn K (He.ga K x) He.veBase "ValueError.__new__" = true
  kp : PySem.W.keepIn K (.ref (He.ga K x)) = true
  bs : PySem.W.subIn K (.ref (He.ga K x)) (.type "BaseException") = some true
  ty : PySem.W.typeIn K (.ref (He.ga K x)) = some (.type "type")
def tRz (W : WX) (C : Addr) : TS := fun _ σ H => W (.ref C) none σ H
theorem ps_rz {X : Cx} {W : WX} {x m : Str} {j : Nat} {p p2 pos pos2 : Pos} (T : ExcT X.K X.mg x) (hc : X.calm = true) (tk : Takes X W) (hg : Gl X x) (hdb : (x == ("__debug__" : Str)) = false := by decide) :
    PS X (.Raise (some (.Call (.Name x p) [.Constant (.str m) j p2] [] pos)) none pos2) (tRz W (He.ga X.K x)) :=
  ps_raise hc tk (pmk_own PySem.F.excBase_ValueError T.xc T.gl T.kp (raises_own T.bs T.ty) hg hdb)
theorem rd_rz {W : WX} {C : Addr} {D : Ends} {σ : L2.St} {H : Hp} (h : W (.ref C) none σ H) : tRz W C D σ H := h
/-! ### isinstance of what a suite holds -/
def gIsE (K : PySem.W.Frag) (a : Addr) (cls : Value) (d : Option Addr) : List V → Hp → VK → Prop := fun xs H Q => ∃ (D : Addr) (c : V) (cv : Value) (b : Bool), cls = .ref D ∧ d = none ∧ ExcC K D ∧ xs = [.ref a, c] ∧ (∀ u, RelV c u → u = cv) ∧ PySem.W.kitOne K (.ref D) cv = some b ∧ Q (.bl b) H
theorem cr_isE {X : Cx} {a : Addr} {cls : Value} {d : Option Addr} {oe : Obj} {pn : List (Addr × Obj)} (hz : Zc cls d oe) (hf : ∃ vs, oe.data = .fields vs) : CallR (X.suite a ((a, oe) :: pn)) (.builtin "isinstance") (gIsE X.K a cls d) := by
  intro pins s σ H xs us Q I r h
  obtain ⟨D, c, cv, b, rfl, rfl, C, h⟩ := h
  exact call_isE (X := X) C hz hf pins s σ H xs us Q I r ⟨c, cv, b, h⟩
theorem rd_isE {K : PySem.W.Frag} {a D C : Addr} {H : Hp} {Q : VK} {b : Bool} (E : ExcC K D) (hk : PySem.W.kitOne K (.ref D) (.ref C) = some b) (k : Q (.bl b) H) : gIsE K a (.ref D) none [.ref a, .ref C] H Q :=
  ⟨D, _, _, b, rfl, rfl, E, rfl, fun _ r => r, hk, k⟩
theorem rd_isET {K : PySem.W.Frag} {a D : Addr} {H : Hp} {Q : VK} {b : Bool} {n : String} (E : ExcC K D) (hk : PySem.W.kitOne K (.ref D) (.type n) = some b) (k : Q (.bl b) H) : gIsE K a (.ref D) none [.ref a, .ty n] H Q :=
  ⟨D, _, _, b, rfl, rfl, E, rfl, fun _ r => r, hk, k⟩
end Tr
/-! Further rules. -/
namespace Tr
open PySem PySem.Spec PyProof.Rows L2
theorem pe_gint {X : Cx} {x : Str} {n : Int} {pos : Pos} (h : ∃ t, X.mg x = some (.int n t)) (hg : Gl X x) (hd : (x == ("__debug__" : Str)) = false := by decide) : PE X (.Name x pos) (tC (.int n)) := by
  obtain ⟨t, h⟩ := h
  exact pe_glob hg h ⟨t, rfl⟩ hd
theorem ited {p A B : Prop} [Decidable p] (h1 : p → A) (h2 : ¬ p → B) : if decide p = true then A else B := by
  by_cases h : p
  · rw [if_pos (decide_eq_true h)]
    exact h1 h
  · rw [if_neg (by rw [decide_eq_false h]; decide)]
    exact h2 h
theorem itedN {p A B : Prop} [Decidable p] (h1 : ¬ p → A) (h2 : p → B) : if (!decide p) = true then A else B := by
  by_cases h : p
  · rw [if_neg (by rw [decide_eq_true h]; decide)]
    exact h2 h
  · rw [if_pos (by rw [decide_eq_false h]; decide)]
    exact h1 h
theorem iteB {b : Bool} {A B : Prop} (h1 : b = true → A) (h2 : b = false → B) : if b = true then A else B := by
  cases b with
  | true => exact iteT (h1 rfl)
  | false => exact iteF (h2 rfl)
theorem iteBN {b : Bool} {A B : Prop} (h1 : b = false → A) (h2 : b = true → B) : if (!b) = true then A else B := by
  cases b with
  | true => exact iteF (h2 rfl)
  | false => exact iteT (h1 rfl)
/-- == of two lists of ints -/
theorem ints_data (ns : List Int) : ∀ {K : PySem.W.Frag} {H : Hp}, DpAll K H (ns.map V.int) (ns.map PyData.int) := by
  induction ns with
  | nil => intro K H; exact .nil
  | cons n ns ih => intro K H; exact .cons (.int n) ih
end Tr
namespace Tr
open PySem PySem.Spec PyProof.Rows L2
/-! ### slices and places -/
theorem cut_from {xs : List V} {k : Nat} : cutV xs (some (k : Int)) none = xs.drop k := by
  unfold cutV
  rw [HT.sIx_nat, HT.sIx_none]
  by_cases h : k ≤ xs.length
  · rw [Nat.min_eq_left h]
    exact List.take_of_length_le (by rw [List.length_drop]; omega)
  · have e : min k xs.length = xs.length := by omega
    rw [e, List.drop_length, List.drop_eq_nil_of_le (by omega)]
    simp
theorem cut_to {xs : List V} {k : Nat} : cutV xs none (some (k : Int)) = xs.take k := by
  unfold cutV
  rw [HT.sIx_nat, HT.sIx_none, List.drop_zero, Nat.sub_zero]
  by_cases h : k ≤ xs.length
  · rw [Nat.min_eq_left h]
  · have e : min k xs.length = xs.length := by omega
    rw [e, List.take_length, List.take_of_length_le (by omega)]
theorem cut_both {xs : List V} {j k : Nat} : cutV xs (some (j : Int)) (some (k : Int)) = (xs.drop j).take (k - j) := by
  unfold cutV
  rw [HT.sIx_nat, HT.sIx_nat]
  by_cases h : j ≤ xs.length
  · rw [Nat.min_eq_left h]
    by_cases h2 : k ≤ xs.length
    · rw [Nat.min_eq_left h2]
    · have e : min k xs.length = xs.length := by omega
      rw [e, List.take_of_length_le (by rw [List.length_drop]; omega), List.take_of_length_le (by rw [List.length_drop]; omega)]
  · have e : min j xs.length = xs.length := by omega
    rw [e, List.drop_length, List.drop_eq_nil_of_le (by omega)]
    simp
theorem at_int {ls : List Int} {k : Int} (h0 : 0 ≤ k) (hk : k < ls.length) : atI (ls.map V.int) k = some (.int (ls.getD k.toNat 0)) := by
  obtain ⟨j, rfl⟩ : ∃ j : Nat, k = j := ⟨k.toNat, by omega⟩
  have hj : j < ls.length := by omega
  refine atI_nat ?_
  rw [List.getElem?_map, List.getElem?_eq_getElem hj, Int.toNat_natCast, List.getD_eq_getElem?_getD, List.getElem?_eq_getElem hj]
  rfl
theorem mem_take {α : Type} {l : List α} {i : Nat} {x : α} (h : l[i]? = some x) : x ∈ l := List.mem_of_getElem? h
theorem take_sum {ns : List Int} {i : Nat} {n : Int} (h : ns[i]? = some n) : (ns.take (i + 1)).sum = (ns.take i).sum + n := by
  rw [List.take_add_one, h, List.sum_append]
  simp
/-! ### == of lists of ints -/
theorem eqvAll_ints : ∀ (ns ms : List Int), PyData.eqvAll (ns.map PyData.int) (ms.map PyData.int) = decide (ns = ms)
  | [], [] => by simp [PyData.eqvAll]
  | [], _ :: _ => by simp [PyData.eqvAll]
  | _ :: _, [] => by simp [PyData.eqvAll]
  | n :: ns, m :: ms => by
    simp only [List.map_cons, PyData.eqvAll, eqvAll_ints ns ms]
    by_cases h : n = m
    · subst h
      simp [PyData.eqv]
    · simp [PyData.eqv, h]
end Tr
namespace Tr
open PySem PySem.Spec PyProof.Rows L2
theorem depth_ints : ∀ ns : List Int, PyData.depthAll (ns.map PyData.int) = 0
  | [] => by simp only [List.map_nil, PyData.depthAll]
  | n :: ns => by simp only [List.map_cons, PyData.depthAll, PyData.depth, depth_ints ns, Nat.max_self]
theorem canLay_ints : ∀ ns : List Int, PyData.canLayAll0 (ns.map PyData.int) = true
  | [] => by simp only [List.map_nil, PyData.canLayAll0]
  | n :: ns => by simp only [List.map_cons, PyData.canLayAll0, PyData.canLay0, canLay_ints ns, Bool.and_self]
theorem shaped_ints (ns : List Int) : SeqAt.shaped (.list (ns.map PyData.int)) = true := by
  unfold SeqAt.shaped
  simp only [PyData.canLay0, canLay_ints, PyData.depth, depth_ints, Bool.true_and]
  decide
theorem eqv_ints (ns ms : List Int) : PyData.eqv (.list (ns.map PyData.int)) (.list (ms.map PyData.int)) = decide (ns = ms) := by
  rw [PyData.eqv, eqvAll_ints]
section
variable {K : PySem.W.Frag} {H : Hp} {Q : VK} {p q : Addr} {ns ms : List Int}
theorem dp_ints (h : SqL K H p (ns.map V.int)) : Dp K H (.ref p) (.list (ns.map PyData.int)) := .lst h (ints_data ns)
theorem rd_eqL (h1 : SqL K H p (ns.map V.int)) (h2 : SqL K H q (ms.map V.int)) (k : Q (.bl (decide (ns = ms))) H) : gEq K (.ref p) (.ref q) H Q :=
  rd_eqD (dp_ints h1) (dp_ints h2) (shaped_ints ns) (shaped_ints ms) (by rw [eqv_ints]; exact k)
theorem rd_neL (h1 : SqL K H p (ns.map V.int)) (h2 : SqL K H q (ms.map V.int)) (k : Q (.bl (!decide (ns = ms))) H) : gNe K (.ref p) (.ref q) H Q :=
  rd_neD (dp_ints h1) (dp_ints h2) (shaped_ints ns) (shaped_ints ms) (by rw [eqv_ints]; exact k)
end
/-! ### the promises of pure defs -/
/-- a new list -/
def newL (H : Hp) (Q : VK) (xs : List V) : Prop := ∀ p H', Led H H' [(p, .lst xs)] → Q (.ref p) H'
/-- nothing but a value -/
def newV (H : Hp) (Q : VK) (v : V) : Prop := ∀ H', Led H H' [] → Q v H'
/-- an error -/
def newE (K : PySem.W.Frag) (H : Hp) (E : XK) (x : Str) : Prop := ∀ H', Led H H' [] → E (.ref (He.ga K x)) none H'
end Tr
namespace Tr
open PySem PySem.Spec PyProof.Rows L2
/-! ### the rules with the written part named -/
section
variable {X : Cx} (K : PySem.W.Frag)
theorem kLen (h : X.K = K := by rfl) : CallR X (.builtin "len") (gLen K) := h ▸ cr_len
theorem kSum (hc : X.calm = true) (h : X.K = K := by rfl) : CallR X (.builtin "sum") (rSum K) := h ▸ cr_sum hc
theorem kMax (hc : X.calm = true) (h : X.K = K := by rfl) : CallR X (.builtin "max") (gMax K) := h ▸ cr_gMax hc
theorem kMin (hc : X.calm = true) (h : X.K = K := by rfl) : CallR X (.builtin "min") (gMin K) := h ▸ cr_gMin hc
theorem kSorted (h : X.K = K := by rfl) : CallR X (.builtin "sorted") (rSortedI K) := h ▸ cr_sortedI
theorem kIsi (h : X.K = K := by rfl) : CallR X (.builtin "isinstance") (rIsi K) := h ▸ call_isi
theorem kList (h : X.K = K := by rfl) : CallR X (.type "list") (gList K) := h ▸ cr_list
theorem kTuple (h : X.K = K := by rfl) : CallR X (.type "tuple") (gTuple K) := h ▸ cr_tuple
theorem kEq (hu : X.A.units + 64 < cLine) (h : X.K = K := by rfl) : OpR X (compareOp .Eq) (gEq K) := h ▸ op_gEq hu
theorem kNe (hu : X.A.units + 64 < cLine) (h : X.K = K := by rfl) : OpR X (compareOp .NotEq) (gNe K) := h ▸ op_gNe hu
theorem kIx (h : X.K = K := by rfl) : IxR X (rIx K) := h ▸ ix_seq
theorem kSl (h : X.K = K := by rfl) : SlR X (rSlL K) := h ▸ sl_list
theorem kCount (h : X.K = K := by rfl) : MtR X "list.count" (rCntI K) := h ▸ mt_lcount
theorem kIndex (h : X.K = K := by rfl) : MtR X "list.index" (rIndex K) := h ▸ mt_index
variable {tg : Expr} {l : Expr} {tl : TE}
theorem kiList (hl : PE X l tl) (h : X.K = K := by rfl) : PI X tg l (iList K tl) := h ▸ pi_list hl
theorem kiTup (hl : PE X l tl) (h : X.K = K := by rfl) : PI X tg l (iTup K tl) := h ▸ pi_tup hl
variable {o e : Expr} {es : List Expr} {to : TE} {t : TA} {name : Str} {apos cpos : Pos} {T id : String} {r : V → List V → Hp → VK → Prop}
theorem kbm0 (pa : PlainAttrs T) (slot : Slot T name id) (hty : typeOf (.builtin id) = pure (.type "method_descriptor")) (hm : MtR X id r) (ho : PE X o to)
    (h : X.K = K := by rfl) (hbase : attributeBase o name X.env (eval o X.env) = eval o X.env := by rfl) (hline : (apos.endLine == cpos.line) = true := by rfl) : PE X (.Call (.Attribute o name apos) [] [] cpos) (tBM0 K T r to) :=
  h ▸ pe_bm0 pa slot hty hm ho hbase hline
theorem kbm (pa : PlainAttrs T) (slot : Slot T name id) (hty : typeOf (.builtin id) = pure (.type "method_descriptor")) (hm : MtR X id r) (ho : PE X o to) (ha : PA X (e :: es) t)
    (h : X.K = K := by rfl) (hbase : attributeBase o name X.env (eval o X.env) = eval o X.env := by rfl)
    (hfew : ((backTo cpos (starEach (e :: es) X.env)).all (fun x => !x.1) && (backToKw cpos (keywordEach [] X.env)).all (fun x => x.1.isSome)
      && decide ((e :: es).length + ([] : List Keyword).length + (if ([] : List Keyword).isEmpty then 0 else 1) < 30)) = true := by rfl)
    (hline : (apos.endLine == cpos.line) = true := by rfl) (hs : starEach (e :: es) X.env = (false, eval e X.env) :: starEach es X.env := by rfl) (hplain : (backTo cpos (starEach es X.env)).any (·.1) = false := by rfl) :
    PE X (.Call (.Attribute o name apos) (e :: es) [] cpos) (tBM K T r to t) := h ▸ pe_bm pa slot hty hm ho ha hbase hfew hline hs hplain
end
end Tr
namespace Tr
theorem iteNT {A B : Prop} (h : B) : if (!true) = true then A else B := L2.iteF h
theorem iteNF {A B : Prop} (h : A) : if (!false) = true then A else B := L2.iteT h
end Tr
namespace Tr
open PySem PySem.Spec PyProof.Rows L2
/-! ### == of lists of truths -/
theorem bools_data (ns : List Bool) : ∀ {K : PySem.W.Frag} {H : Hp}, DpAll K H (ns.map V.bl) (ns.map PyData.bool) := by
  induction ns with
  | nil => intro K H; exact .nil
  | cons n ns ih => intro K H; exact .cons (.bl n) ih
theorem eqvAll_bools : ∀ (ns ms : List Bool), PyData.eqvAll (ns.map PyData.bool) (ms.map PyData.bool) = decide (ns = ms)
  | [], [] => by simp [PyData.eqvAll]
  | [], _ :: _ => by simp [PyData.eqvAll]
  | _ :: _, [] => by simp [PyData.eqvAll]
  | n :: ns, m :: ms => by
    simp only [List.map_cons, PyData.eqvAll, eqvAll_bools ns ms]
    by_cases h : n = m
    · subst h
      simp [PyData.eqv]
    · simp [PyData.eqv, h]
theorem depth_bools : ∀ ns : List Bool, PyData.depthAll (ns.map PyData.bool) = 0
  | [] => by simp only [List.map_nil, PyData.depthAll]
  | n :: ns => by simp only [List.map_cons, PyData.depthAll, PyData.depth, depth_bools ns, Nat.max_self]
theorem canLay_bools : ∀ ns : List Bool, PyData.canLayAll0 (ns.map PyData.bool) = true
  | [] => by simp only [List.map_nil, PyData.canLayAll0]
  | n :: ns => by simp only [List.map_cons, PyData.canLayAll0, PyData.canLay0, canLay_bools ns, Bool.and_self]
theorem shaped_bools (ns : List Bool) : SeqAt.shaped (.list (ns.map PyData.bool)) = true := by
  unfold SeqAt.shaped
  simp only [PyData.canLay0, canLay_bools, PyData.depth, depth_bools, Bool.true_and]
  decide
section
variable {K : PySem.W.Frag} {H : Hp} {Q : VK} {p q : Addr}
theorem rd_eqBs (ns ms : List Bool) (h1 : SqL K H p (ns.map V.bl)) (h2 : SqL K H q (ms.map V.bl)) (k : Q (.bl (decide (ns = ms))) H) : gEq K (.ref p) (.ref q) H Q :=
  rd_eqD (.lst h1 (bools_data ns)) (.lst h2 (bools_data ms)) (shaped_bools ns) (shaped_bools ms) (by
    rw [PyData.eqv, eqvAll_bools]
    exact k)
theorem rd_neBs (ns ms : List Bool) (h1 : SqL K H p (ns.map V.bl)) (h2 : SqL K H q (ms.map V.bl)) (k : Q (.bl (!decide (ns = ms))) H) : gNe K (.ref p) (.ref q) H Q :=
  rd_neD (.lst h1 (bools_data ns)) (.lst h2 (bools_data ms)) (shaped_bools ns) (shaped_bools ms) (by
    rw [PyData.eqv, eqvAll_bools]
    exact k)
end
theorem Led.fresh0 {H0 H : Hp} (L : Led H0 H []) : Led H0 H [] := L
/-- only what stands in front is kept -/
theorem Led.only {H0 H : Hp} {l : List (Addr × HO)} {x : Addr × HO} (L : Led H0 H (x :: l)) : Led H0 H [x] := L.sub (List.Sublist.cons_cons _ (List.nil_sublist _))
theorem Led.none {H0 H : Hp} {l : List (Addr × HO)} (L : Led H0 H l) : Led H0 H [] := L.sub (List.nil_sublist _)
end Tr
namespace Tr
open PySem PySem.Spec PyProof.Rows L2
section
variable {K : PySem.W.Frag} {H : Hp} {Q : VK} {p q : Addr} {ns : List Int}
theorem rd_eqLs (h1 : SqL K H p (ns.map V.int)) (h2 : SqL K H q (ns.map V.int)) (k : Q (.bl true) H) : gEq K (.ref p) (.ref q) H Q := rd_eqL h1 h2 (by
  rw [decide_eq_true rfl]
  exact k)
theorem rd_neLs (h1 : SqL K H p (ns.map V.int)) (h2 : SqL K H q (ns.map V.int)) (k : Q (.bl false) H) : gNe K (.ref p) (.ref q) H Q := rd_neL h1 h2 (by
  rw [decide_eq_true rfl]
  exact k)
end
/-- a plain «if c: x = v» -/
theorem if_asg {c : Prop} [Decidable c] {v w : V} {i : Nat} {D : Ends} {σ : L2.St} {H : Hp} (hw : σ[i]? = some (some w)) (h : D.nx (σ.set i (some (if c then v else w))) H) : if decide c = true then tAsg (tC v) (gName i) D σ H else tNext D σ H := by
  refine ited (fun hc => ?_) (fun hc => ?_)
  · rw [if_pos hc] at h
    exact h
  · rw [if_neg hc] at h
    have e : σ.set i (some w) = σ := by
      apply List.ext_getElem?
      intro j
      rw [List.getElem?_set]
      by_cases hj : i = j
      · subst hj
        rw [if_pos rfl, if_pos (List.getElem?_eq_some_iff.mp hw).1, hw]
      · rw [if_neg hj]
    rw [e] at h
    exact h
end Tr
namespace Tr
open PySem PySem.Spec PyProof.Rows L2
/-- an if whose ways come together: N is what stands behind it -/
theorem if_two {c : Prop} [Decidable c] {t u : TS} {D : Ends} {σ : L2.St} {H : Hp} (N : L2.St → Hp → Prop) (h0 : ∀ σ H, N σ H → D.nx σ H)
    (h1 : ∀ nx' : L2.St → Hp → Prop, (∀ σ H, N σ H → nx' σ H) → c → t { D with nx := nx' } σ H) (h2 : ∀ nx' : L2.St → Hp → Prop, (∀ σ H, N σ H → nx' σ H) → ¬ c → u { D with nx := nx' } σ H) : if decide c = true then t D σ H else u D σ H :=
  ited (fun c => h1 D.nx h0 c) (fun c => h2 D.nx h0 c)
/-- a statement behind which N stands -/
theorem st_cut {t : TS} {D : Ends} {σ : L2.St} {H : Hp} (N : L2.St → Hp → Prop) (h0 : ∀ σ H, N σ H → D.nx σ H) (h1 : ∀ nx' : L2.St → Hp → Prop, (∀ σ H, N σ H → nx' σ H) → t { D with nx := nx' } σ H) : t D σ H := h1 D.nx h0
/-! ### index, backwards -/
section
variable {H0 H : Hp} {l : List (Addr × HO)} {Q : VK} {K : PySem.W.Frag} {a : Addr} {xs : List V} {σ : L2.St} {te : TE}
theorem idx_first {n : Int} : ∀ {ns : List Int}, n ∈ ns → ∃ j, j < ns.length ∧ ns[j]? = some n ∧ ∀ m z, m < j → ns[m]? = some z → z ≠ n
  | x :: r, h => by
    by_cases e : x = n
    · exact ⟨0, by simp, by simp [e], fun m z hm => absurd hm (Nat.not_lt_zero _)⟩
    · have h' : n ∈ r := by
        rcases List.mem_cons.mp h with h | h
        · exact absurd h.symm e
        · exact h
      obtain ⟨j, h1, h2, h3⟩ := idx_first h'
      refine ⟨j + 1, by simpa using h1, by simpa using h2, fun m z hm hz => ?_⟩
      cases m with
      | zero =>
        have : x = z := by simpa using hz
        subst this
        exact e
      | succ m => exact h3 m z (by omega) (by simpa using hz)
theorem rd_index {ns : List Int} {n : Int} (hs : SqL K H a (ns.map V.int)) (hn : n ∈ ns) (k : ∀ j : Nat, j < ns.length → ns[j]? = some n → (∀ m z, m < j → ns[m]? = some z → z ≠ n) → Q (.int j) H) : rIndex K (.ref a) [.int n] H Q := by
  obtain ⟨j, h1, h2, h3⟩ := idx_first hn
  refine ⟨a, ns.map V.int, .int n, j, .int n, rfl, rfl, hs, rfl, ?_, ?_, ?_, ?_, k j h1 h2 h3⟩
  · rw [List.all_map]
    exact List.all_eq_true.mpr fun _ _ => rfl
  · rw [List.getElem?_map, h2]
    rfl
  · show (n == n) = true
    simp
  · intro m z' hm hz
    rw [List.getElem?_map] at hz
    cases e : ns[m]? with
    | none => rw [e] at hz; cases hz
    | some z =>
      rw [e] at hz
      cases hz
      have := h3 m z hm e
      show (z == n) = false
      simpa using this
def revL1 (K : PySem.W.Frag) (x : V) (H : Hp) (Q : VK) : Prop := ∃ a xs, x = .ref a ∧ SqL K H a xs ∧ ∀ p, H p = none → Q (.ref p) (upd H p (.lst xs.reverse))
theorem rd_revL (h : te σ H fun x H1 => revL1 K x H1 Q) : tRevL K te σ H Q := h
theorem rd_revL1 (L : Led H0 H l) (hs : SqL K H a xs) (k : ∀ p H', Led H0 H' ((p, .lst xs.reverse) :: l) → Ts H H' → Q (.ref p) H') : revL1 K (.ref a) H Q := ⟨a, xs, rfl, hs, fun p hp => k p _ (L.push hp) (Ts.of (Same.push hp))⟩
end
end Tr
namespace Tr
open PySem PySem.Spec PyProof.Rows L2
section
variable {H0 H : Hp} {l : List (Addr × HO)} {Q : VK} {K : PySem.W.Frag} {a : Addr} {σ : L2.St} {te : TE} {g : TG} {tt : TT} {vs : List Nat}
/-- a list of what f tells of each item -/
def mapI (H0 H : Hp) (l : List (Addr × HO)) (ns : List Int) (f : Int → V) (D : Addr) (i : Nat) (H2 : Hp) : Prop := Led H0 H2 ((D, .lst ((ns.take i).map f)) :: l) ∧ Ts H H2
theorem rd_mapIEnd {ns : List Int} {f : Int → V} {i : Nat} {n : Int} {D : Addr} {H3 : Hp} (l' : List (Addr × HO)) (L : Led H0 H3 (l' ++ (D, .lst ((ns.take i).map f)) :: l)) (t : Ts H H3) (hn : ns[i]? = some n) (hi : i < 1000000) {y : V} (e : y = f n) : put1 D (mapI H0 H l ns f D (i + 1)) y H3 := by
  subst e
  refine rd_put1 L.drop1 0 rfl (by rw [List.length_map, List.length_take]; exact szl (m := i) (Nat.min_le_left _ _)) fun H5 L5 t5 => ⟨L5.to ?_, t.trans t5⟩
  rw [List.take_add_one, hn, List.map_append]
  rfl
theorem lc_mapI {ns : List Int} (f : Int → V) (L : Led H0 H l) (hS : ∀ H1, Ts H H1 → Same H0 H1 → (∀ l1, Led H0 H1 (l1 ++ l) → SqL K H1 a (ns.map V.int)))
    (hs : ∀ i n D H1, ns[i]? = some n → Led H0 H1 ((D, .lst ((ns.take i).map f)) :: l) → Ts H H1 → g (.int n) (wipe σ vs) H1 fun σ2 H2 => wipe σ2 vs = wipe σ vs ∧ tt σ2 H2 fun b H3 => if b = true then te σ2 H3 (put1 D (mapI H0 H l ns f D (i + 1))) else mapI H0 H l ns f D (i + 1) H3)
    (hd : ∀ D H1, Led H0 H1 ((D, .lst (ns.map f)) :: l) → Ts H H1 → Q (.ref D) H1) : lc (Itl K a) g tt te vs σ H Q := by
  refine lc_lst (xs := ns.map V.int) L fun D H1 L1 t1 => ⟨mapI H0 H l ns f D, ⟨L1, t1⟩, fun i H2 _ ⟨L2, t2⟩ => hS H2 t2 L2.same [_] L2, fun i x H2 hx ⟨L2, t2⟩ => ?_, fun H2 ⟨L2, t2⟩ => hd D H2 (L2.to (by rw [List.length_map, List.take_length])) t2⟩
  rw [List.getElem?_map] at hx
  cases e : ns[i]? with
  | none => rw [e] at hx; cases hx
  | some n =>
    rw [e] at hx
    cases hx
    exact hs i n D H2 e L2 t2
end
end Tr
/-! list(reversed(x)), x a list or a tuple. -/
namespace Tr
open PySem PySem.Spec PyProof.Rows L2 RT
theorem tup_at {h h' : Heap} {a : Addr} {items : Array Value} (x : IsTup h a items) (k : ∀ o, h.get? a = some o → h'.get? a = some o) : IsTup h' a items := let ⟨o, e, r⟩ := x; ⟨o, k o e, r⟩
section
variable {prog : Program} {w : World} {A : Around} {E : Value → Shared → Prop} {s : Shared}
theorem rt_nolen : typeLookup (.type "reversed") "__len__" = pure none := by rw [typeLookup_type, builtinLookup_eq_fast]; kernel_rfl
theorem rt_hint : typeLookup (.type "reversed") "__length_hint__" = pure (some (.builtin "reversed.__length_hint__")) := by rw [typeLookup_type, builtinLookup_eq_fast]; kernel_rfl
theorem rt_hint_slot : Slot "reversed" "__length_hint__" "reversed.__length_hint__" :=
  .of (owner := "reversed") (n := "__length_hint__") rt_hint (by decide +kernel) (by decide +kernel) (by decide +kernel)
    (by first | exact .inl (by decide +kernel) | exact .inr (by decide +kernel)) (by rw [isSubtype_type]; kernel_rfl)
theorem rt_hint_entry : entryFor table "reversed.__length_hint__" = some Builtin.«reversed.__length_hint__» := entryFor_of_tree (by kernel_rfl)
theorem rt_hint_args (a : Value) : argsOk "reversed.__length_hint__" ⟨[a], []⟩ := by
  unfold argsOk; rw [signature?_of (id := "reversed.__length_hint__") (n := "__length_hint__".toList.reverse) (o := "reversed".toList.reverse) (by kernel_rfl) owner_rt]; kernel_rfl
theorem rt_hint_call {I t : Addr} {items : Array Value} {Q : Value → Shared → Prop} (hit : IsRt s.heap I t ((items.size : Int) - 1)) (ht : IsTup s.heap t items) (hn : items.size ≤ sizeLine)
    (h : ∀ tk u, Q (.int items.size u) { s with toks := tk }) : wpAny (model prog w) A (call (.builtin "reversed.__length_hint__") [.ref I]) Q E s := by
  obtain ⟨o, ho, hc, hd⟩ := id hit
  rw [sizeLine_eq] at hn
  refine wpAny_call_entry rt_hint_slot hit.typeIs rt_hint_entry ?_ (rt_hint_args _)
  unfold Builtin.«reversed.__length_hint__»
  refine wpAny_bind (wpAny_of_eq (a := Value.ref I) rfl ?_)
  refine wpAny_bind (wpAny_field ho hd (x := .ref t) rfl ?_)
  rw [if_neg (by simp)]
  refine wpAny_bind (len_tuple ht (by omega) ?_)
  refine wpAny_bind (wpAny_of_eq (a := some (items.size : Int)) rfl ?_)
  show wpAny _ _ (field (.ref I) 1 >>= _) _ _ _
  refine wpAny_bind (wpAny_field (s := { s with toks := s.toks + 1 + 1 }) ho hd (x := rawInt ((items.size : Int) - 1)) rfl ?_)
  show wpAny _ _ (if (items.size : Int) < (items.size : Int) - 1 + 1 then _ else _) _ _ _
  rw [if_neg (by omega)]
  have e : (items.size : Int) - 1 + 1 = items.size := by omega
  rw [e]
  refine wpAny_bind (wpAny_mkInt (wpAny_pure ⟨_, rfl, h _ _⟩))
theorem hint_tail {n : Nat} {Q : Bool → Shared → Prop} {u : Tok} {F : Option Int → Sem Bool} (h : wpAny (model prog w) A (F (some (n : Int))) Q E s) : wpAny (model prog w) A (asInt? (.int n u) >>= F) Q E s := wpAny_bind (wpAny_of_eq (a := some (n : Int)) rfl h)
theorem rt_hint_of {I t : Addr} {items : Array Value} {Q : Bool → Shared → Prop} (hit : IsRt s.heap I t ((items.size : Int) - 1)) (ht : IsTup s.heap t items) (hn : items.size ≤ sizeLine)
    (h : ∀ tk b, Q b { s with toks := tk }) : wpAny (model prog w) A (Builtin.List.listLengthHint (.ref I)) Q E s := by
  have hT := hit.typeIs
  have hn' := hn
  rw [sizeLine_eq] at hn'
  unfold Builtin.List.listLengthHint
  refine wpAny_bind (wpAny_specialOf hT rt_nolen ?_)
  show wpAny _ A (specialOf (Value.ref I) (Str.ofString "__length_hint__") >>= _) _ _ _
  refine wpAny_bind (wpAny_specialOf hT rt_hint ?_)
  generalize hid : ("reversed.__length_hint__" : String) = id0
  wp_delta
  rw [show splitId id0 = some ("reversed", "__length_hint__") from by subst hid; decide +kernel]
  subst hid
  refine wpAny_bind (wpAny_isInstance (b := true) hT (by rw [isSubtype_type]; kernel_rfl) ?_)
  rw [if_neg (by decide)]
  show wpAny _ _ (rule "list.length-hint.hint" >>= _) _ _ _
  refine wpAny_bind (wpAny_rule ?_)
  refine wpAny_bind (wpAny_of_eq (rt_hint_slot.bind _) ?_)
  refine wpAny_bind (wpAny_attempt (rt_hint_call hit ht hn fun tk u => ?_))
  show wpAny _ _ (asInt? (.int items.size u) >>= _) _ _ _
  refine hint_tail ?_
  have f1 : Builtin.List.listFitsIndex (items.size : Int) = true := fitsIndex_both (by omega) (by omega)
  have f2 : Builtin.List.listTooLong (items.size : Int).toNat = false := notLongL (by rw [Int.toNat_natCast]; exact hn)
  show wpAny _ _ (if (!Builtin.List.listFitsIndex (items.size : Int)) = true then _ else _) _ _ _
  rw [if_neg (by rw [f1]; decide)]
  show wpAny _ _ (if (items.size : Int) < 0 then _ else _) _ _ _
  rw [if_neg (by omega)]
  show wpAny _ _ (if Builtin.List.listTooLong (items.size : Int).toNat = true then _ else _) _ _ _
  rw [if_neg (by rw [f2]; decide)]
  exact wpAny_pure (h _ _)
/-! list(it) -/
/-- the loop that fills a new list -/
theorem fill_new {I l : Addr} {n : Nat} {P : Nat → Value → Prop} {St : Nat → Heap → Prop} {R : Result → Shared → Prop} (W : Walks prog w A.in1 I [I, l] [I] n P St) (hn : n ≤ sizeLine) {S : Addr} {s : Shared} {c : Nat} (hSI : S ≠ I) (hSl : S ≠ l) (hst : St 0 s.heap) (hS : s.heap.get? S = some { cls := .type "list", data := .seq #[] c })
    (hR : ∀ h' tk acc c', (∀ b o, b ≠ S → b ≠ I → s.heap.get? b = some o → h'.get? b = some o) → h'.get? S = some { cls := .type "list", data := .seq acc c' } → ItemsOf P acc n → R (.ok (.ret .none)) { s with heap := h', toks := tk }) :
    codeAny (model prog w) A (.builtin "list.extend.loop" ⟨[.ref S, .ref I, .none], []⟩) R s := by
  have hSf : S ∉ [I, l] := by simp [hSI, hSl]
  refine codeAny_extend_loopS W.toS hn S hSf .none n 0 s #[] c rfl (Nat.zero_le _) hst hS (ItemsOf.nil P) fun s' acc c' hm hS' hacc => ?_
  rw [Moved.eq_with hm]
  refine hR s'.heap s'.toks acc c' (fun b o h1 h2 e => hm.heap b o (fun hb => ?_) e) hS' hacc
  rcases List.mem_cons.mp hb with z | z
  · exact h1 z
  · exact h2 (List.mem_singleton.mp z)
/-- list.__init__ of a new list at S, from an iterator -/
theorem init_of_it {I l : Addr} {n : Nat} {P : Nat → Value → Prop} {St : Nat → Heap → Prop} {R : Result → Shared → Prop} {T : String} (W : Walks prog w A.in1 I [I, l] [I] n P St) (hn : n ≤ sizeLine) {S : Addr} {s : Shared} (hSI : S ≠ I) (hSl : S ≠ l) (hst : St 0 s.heap)
    (hS : s.heap.get? S = some { cls := .type "list", data := .seq #[] }) (hT : ∀ s : Shared, St 0 s.heap → s.TypeIs (.ref I) T) (t1 : (Value.type T == Value.type "list") = false) (t2 : (Value.type T == Value.type "tuple") = false)
    (hint : ∀ (s : Shared) (Q : Bool → Shared → Prop) (E : Value → Shared → Prop), St 0 s.heap → (∀ tk b, Q b { s with toks := tk }) → wpAny (model prog w) A.in1 (Builtin.List.listLengthHint (.ref I)) Q E s)
    (hR : ∀ h' tk acc c', (∀ b o, b ≠ S → b ≠ I → s.heap.get? b = some o → h'.get? b = some o) → h'.get? S = some { cls := .type "list", data := .seq acc c' } → ItemsOf P acc n → R (.ok (.ret .none)) { s with heap := h', toks := tk }) :
    wpAny (model prog w) A.in1 (Builtin.«list.__init__» ⟨[.ref S, .ref I], []⟩)
      (fun fin s' => match fin with | .done f => R (.ok f) s' | .again c' => c'.quiet = true ∧ codeAny (model prog w) A c' R s') (fun e s' => R (.error e) s') s := by
  show wpAny _ _ (do let old ← Builtin.List.listItems (.ref S); Builtin.List.listUpdate (.ref S) (fun _ => #[]); letGo old.toList.reverse; Builtin.List.listExtendWith (.ref S) (.ref I) .none) _ _ s
  refine wpAny_bind ?_
  unfold Builtin.List.listItems
  refine wpAny_bind (wpAny_seqItems hS rfl (wpAny_pure ?_))
  show wpAny _ _ (updateSeq S (fun _ => #[]) >>= fun _ => letGo (#[] : Array Value).toList.reverse >>= fun _ => Builtin.List.listExtendWith (.ref S) (.ref I) .none) _ _ s
  refine wpAny_bind (wpAny_updateSeq hS rfl ?_)
  have hS2 := Heap.get?_update_self (Obj.mapSeq (fun _ => (#[] : Array Value))) hS rfl
  have oth : ∀ b o, b ≠ S → s.heap.get? b = some o → (s.heap.update S (Obj.mapSeq (fun _ => (#[] : Array Value)))).get? b = some o :=
    fun b o hb e => (Heap.get?_update_other _ _ (Ne.symm hb)).trans e
  refine wpAny_bind (wpAny_letGo ?_)
  generalize hs2 : s.heap.update S (Obj.mapSeq (fun _ => (#[] : Array Value))) = h2 at hS2 oth ⊢
  have st2 : St 0 h2 := W.frame 0 _ _ hst fun b hb o e => oth b o (fun z => by
    subst z
    rcases List.mem_cons.mp hb with z | z
    · exact hSI z
    · exact hSl (List.mem_singleton.mp z)) e
  unfold Builtin.List.listExtendWith
  refine wpAny_bind (wpAny_typeOf (hT { s with heap := h2 } st2) ?_)
  have g1 : Builtin.List.listSameRef (.ref S) (.ref I) = false := by simp [Builtin.List.listSameRef, hSI]
  rw [if_neg (by rw [g1, t1, t2]; decide)]
  refine wpAny_bind (W.self 0 { s with heap := h2 } _ _ st2 ?_)
  refine wpAny_bind (wpAny_holding (hint { s with heap := h2 } _ _ st2 fun tk b => ?_))
  have fin : ∀ (h : Heap) (c : Nat), (∀ b o, b ≠ S → h2.get? b = some o → h.get? b = some o) → h.get? S = some { cls := .type "list", data := .seq #[] c } →
      codeAny (model prog w) A (.builtin "list.extend.loop" ⟨[.ref S, .ref I, .none], []⟩) R { s with heap := h, toks := tk } := by
    intro h c hk hSh
    refine fill_new W hn hSI hSl (s := { s with heap := h, toks := tk }) (W.frame 0 _ _ st2 fun b hb o e => hk b o (fun z => by
      subst z
      rcases List.mem_cons.mp hb with z | z
      · exact hSI z
      · exact hSl (List.mem_singleton.mp z)) e) hSh fun h' tk' acc c' k1 k2 k3 => ?_
    exact hR h' tk' acc c' (fun b o n1 n2 e => k1 b o n1 n2 (hk b o n1 (oth b o n1 e))) k2 k3
  refine wpAny_ite_split (fun _ => ?_) (fun _ => wpAny_pure ⟨plainId_quiet F.plain_extend_loop _, fin _ _ (fun _ _ _ e => e) hS2⟩)
  refine wpAny_bind (wpAny_rule ?_)
  refine wpAny_bind ?_
  show wpAny _ _ (updateSeq S (·.push .none) >>= fun _ => updateSeq S (·.pop)) _ _ _
  refine wpAny_bind (wpAny_updateSeq (s := { s with heap := h2, toks := tk }) hS2 rfl ?_)
  have hS3 := Heap.get?_update_self (Obj.mapSeq (·.push Value.none)) hS2 rfl
  refine wpAny_updateSeq (hz := by seq_fits) hS3 rfl ?_
  have hS4 := Heap.get?_update_self (Obj.mapSeq (·.pop)) hS3 rfl
  exact wpAny_pure ⟨plainId_quiet F.plain_extend_loop _, fin _ _ (fun b o hb e => (Heap.get?_update_other _ _ (Ne.symm hb)).trans ((Heap.get?_update_other _ _ (Ne.symm hb)).trans e)) hS4⟩
/-- list(it) -/
theorem call_list_it {I l : Addr} {n : Nat} {P : Nat → Value → Prop} {St : Nat → Heap → Prop} {T : String} {Q : Value → Shared → Prop} (W : Walks prog w A.in1.in1 I [I, l] [I] n P St) (hn : n ≤ sizeLine) (hI : I < s.heap.objs.size) (hl : l < s.heap.objs.size) (hst : St 0 s.heap)
    (hT : ∀ s : Shared, St 0 s.heap → s.TypeIs (.ref I) T) (t1 : (Value.type T == Value.type "list") = false) (t2 : (Value.type T == Value.type "tuple") = false)
    (hint : ∀ (s : Shared) (Q : Bool → Shared → Prop) (E : Value → Shared → Prop), St 0 s.heap → (∀ tk b, Q b { s with toks := tk }) → wpAny (model prog w) A.in1.in1 (Builtin.List.listLengthHint (.ref I)) Q E s)
    (hQ : ∀ h' tk acc c', (∀ b o, b ≠ I → s.heap.get? b = some o → h'.get? b = some o) → h'.get? s.heap.objs.size = some { cls := .type "list", data := .seq acc c' } → ItemsOf P acc n → Q (.ref s.heap.objs.size) { s with heap := h', toks := tk }) :
    wpAny (model prog w) A (call (.type "list") [.ref I]) Q E s := by
  refine callType_codes (Q₁ := fun obj s₁ => obj = .ref s.heap.objs.size ∧ s₁ = { s with heap := s.heap.push { cls := .type "list", data := .seq #[] } }) F.called_list (F.typeCall_list_1 _) F.entry_list_init
    (code_list_new _ ⟨rfl, rfl⟩) fun obj s₁ h₁ => ?_
  obtain ⟨rfl, rfl⟩ := h₁
  have hS : (s.heap.push { cls := .type "list", data := .seq #[] }).get? s.heap.objs.size = some { cls := .type "list", data := .seq #[] } := Heap.get?_push_size _ rfl
  have hSI : s.heap.objs.size ≠ I := Nat.ne_of_gt hI
  have hSl : s.heap.objs.size ≠ l := Nat.ne_of_gt hl
  refine ⟨⟨_, hS, rfl⟩, F.args_list_init_2 _ _, init_of_it (A := A.in1) W hn hSI hSl (W.frame 0 _ _ hst fun b _ o e => Heap.get?_push_of_some _ e) hS hT t1 t2 hint fun h' tk acc c' hk hS' hacc => ?_⟩
  exact ⟨rfl, hQ h' tk acc c' (fun b o hb e => hk b o (Nat.ne_of_lt (Heap.lt_size e)) hb (Heap.get?_push_of_some _ e)) hS' hacc⟩
/-- what reversed(a tuple) walks -/
theorem walks_rt (hh : A.handled = none) (I t : Addr) (hne : t ≠ I) (items : Array Value) (hn : items.size ≤ sizeLine) :
    Walks prog w A I [I, t] [I] items.size (fun i v => items[items.size - 1 - i]? = some v) (fun i h => i ≤ items.size ∧ RT.IsRt h I t ((items.size : Int) - 1 - (i : Int)) ∧ IsTup h t items) where
  sub := by intro b hb; simp at hb; simp [hb]
  frame := by
    rintro _ h h' ⟨x1, x2, x3⟩ hk
    exact ⟨x1, x2.at (hk I (by simp)), tup_at x3 (hk t (by simp))⟩
  item := by
    rintro i s Q E hi ⟨_, x2, x3⟩ hQ
    have e1 : (items.size : Int) - 1 - (i : Int) = ((items.size - 1 - i : Nat) : Int) := by omega
    rw [e1] at x2
    have hx : items[items.size - 1 - i]? = some (items[items.size - 1 - i]'(by omega)) := Array.getElem?_eq_getElem (by omega)
    refine RT.next_rt_item x2 x3 hx hn fun h' y sb => ?_
    have e2 : ((items.size - 1 - i : Nat) : Int) - 1 = (items.size : Int) - 1 - ((i + 1 : Nat) : Int) := by omega
    rw [e2] at y
    exact hQ _ h' (s.toks + 1) hx ⟨hi, y, tup_at x3 fun o eo => (sb.2 t hne).trans eo⟩ fun b o hb eo => (sb.2 b (fun z => hb (by simp [z]))).trans eo
  done := by
    rintro s Q E ⟨_, x2, x3⟩ hQ
    have e1 : (items.size : Int) - 1 - (items.size : Int) = -1 := by omega
    rw [e1] at x2
    exact RT.next_rt_end hh x2 fun h' k => hQ h' s.toks fun b o hb eo => k b o (fun z => hb (by simp [z])) eo
  self := fun _ _ _ _ x hQ => RT.iter_rt x.2.1 hQ

theorem lri_hint_of {I l : Addr} {i : Int} {Q : Bool → Shared → Prop} (hit : s.heap.IsRevIter I l i) (h : ∀ tk b, Q b { s with toks := tk }) : wpAny (model prog w) A (Builtin.List.listLengthHint (.ref I)) Q E s := by
  have hT : s.TypeIs (.ref I) "list_reverseiterator" := hit.typeIs
  unfold Builtin.List.listLengthHint
  refine wpAny_bind (wpAny_specialOf hT nolen_lri ?_)
  show wpAny _ A (specialOf (Value.ref I) (Str.ofString "__length_hint__") >>= _) _ _ _
  refine wpAny_bind (wpAny_specialOf hT hint_lri ?_)
  generalize hid : ("list_reverseiterator.__length_hint__" : String) = id0
  wp_delta
  rw [show splitId id0 = some ("list_reverseiterator", "__length_hint__") from by subst hid; decide +kernel]
  subst hid
  refine wpAny_bind (wpAny_isInstance (b := true) hT (by rw [isSubtype_type]; kernel_rfl) ?_)
  refine wpAny_pure ?_
  exact h s.toks _
theorem call_list_lri {I l : Addr} {items : Array Value} {Q : Value → Shared → Prop} (hh : A.handled = none) (hit : s.heap.IsRevIter I l ((items.size : Int) - 1)) (hl : s.heap.IsList l items) (hne : l ≠ I) (hn : items.size ≤ sizeLine)
    (hQ : ∀ h' tk acc c', (∀ b o, b ≠ I → s.heap.get? b = some o → h'.get? b = some o) → h'.get? s.heap.objs.size = some { cls := .type "list", data := .seq acc c' } → ItemsOf (fun i v => items[items.size - 1 - i]? = some v) acc items.size → Q (.ref s.heap.objs.size) { s with heap := h', toks := tk }) :
    wpAny (model prog w) A (call (.type "list") [.ref I]) Q E s := by
  obtain ⟨oi, hoi, _⟩ := id hit
  obtain ⟨ol, hol, _⟩ := id hl
  have e0 : ((items.size : Nat) : Int) - 1 - ((0 : Nat) : Int) = (items.size : Int) - 1 := by omega
  refine call_list_it (T := "list_reverseiterator") (Walks.listRev (prog := prog) (w := w) (A := A.in1.in1) hh I l hne items) hn (Heap.lt_size hoi) (Heap.lt_size hol) ⟨Nat.zero_le _, by rw [e0]; exact hit, hl⟩ (fun s x => x.2.1.typeIs) (by decide) (by decide) (fun s Q E x h => ?_) hQ
  exact lri_hint_of x.2.1 h
theorem call_list_rt {I l : Addr} {items : Array Value} {Q : Value → Shared → Prop} (hh : A.handled = none) (hit : IsRt s.heap I l ((items.size : Int) - 1)) (hl : IsTup s.heap l items) (hne : l ≠ I) (hn : items.size ≤ sizeLine)
    (hQ : ∀ h' tk acc c', (∀ b o, b ≠ I → s.heap.get? b = some o → h'.get? b = some o) → h'.get? s.heap.objs.size = some { cls := .type "list", data := .seq acc c' } → ItemsOf (fun i v => items[items.size - 1 - i]? = some v) acc items.size → Q (.ref s.heap.objs.size) { s with heap := h', toks := tk }) :
    wpAny (model prog w) A (call (.type "list") [.ref I]) Q E s := by
  obtain ⟨oi, hoi, _⟩ := id hit
  obtain ⟨ol, hol, _⟩ := id hl
  have e0 : ((items.size : Nat) : Int) - 1 - ((0 : Nat) : Int) = (items.size : Int) - 1 := by omega
  refine call_list_it (T := "reversed") (walks_rt (prog := prog) (w := w) (A := A.in1.in1) hh I l hne items hn) hn (Heap.lt_size hoi) (Heap.lt_size hol) ⟨Nat.zero_le _, by rw [e0]; exact hit, hl⟩ (fun s x => x.2.1.typeIs) (by decide) (by decide) (fun s Q E x h => ?_) hQ
  have y := x.2.1
  rw [e0] at y
  exact rt_hint_of y x.2.2 hn h
end
/-- list(reversed(x)), x a list or a tuple: a new list -/
def tListRev (K : PySem.W.Frag) (te : TE) : TE := fun σ H Q => te σ H fun v H1 => ∃ (a : Addr) (xs : List V), v = .ref a ∧ (SqL K H1 a xs ∨ SqT K H1 a xs) ∧ ∀ q, H1 q = none → Q (.ref q) (upd H1 q (.lst xs.reverse))
theorem pe_listRev {X : Cx} {e : Expr} {te : TE} {p p2 pos pos2 : Pos} (hc : X.calm = true) (hg : Gl X "list") (hm : X.mg "list" = none) (hg2 : Gl X "reversed") (hm2 : X.mg "reversed" = none) (he : PE X e te)
    (hs : starEach [e] X.env = (false, eval e X.env) :: starEach [] X.env := by rfl)
    (hs2 : starEach [.Call (.Name "reversed" p2) [e] [] pos2] X.env = (false, eval (.Call (.Name "reversed" p2) [e] [] pos2) X.env) :: starEach [] X.env := by rfl) :
    PE X (.Call (.Name "list" p) [.Call (.Name "reversed" p2) [e] [] pos2] [] pos) (tListRev X.K te) := by
  refine ⟨fun pins s σ H Q I h => ?_⟩
  refine Call_ (ld_blt I hg hm boot_list (PyProof.Rows.callWith_type1 (args_cons (Call_ (ld_blt I hg2 hm2 PyProof.Rows.boot_reversed (PyProof.Rows.callWith_type1 (args_cons (thn (he.run pins s σ H _ I h) fun u s1 ⟨v, H1, I1, r1, q1⟩ => args_nil ?_) hs) hs rfl))) hs2) hs2 rfl))
  obtain ⟨a, xs, ev, hq, q⟩ := q1
  subst ev
  obtain rfl : u = Value.ref a := r1
  rcases hq with hq | hq
  · obtain ⟨its, rv, p', hz⟩ := I1.list hq
    refine call_reversed_list p'.isList (args_nil ?_)
    have k0 : ∀ b o, s1.heap.get? b = some o → (s1.heap.push (revObj a ((its.toArray.size : Int) - 1))).get? b = some o := fun b o e => Heap.get?_push_of_some _ e
    have hl := p'.isList
    obtain ⟨ol, hol, _⟩ := id hl
    have hne : a ≠ s1.heap.objs.size := Nat.ne_of_lt (Heap.lt_size hol)
    have hn : its.toArray.size ≤ sizeLine := by rw [List.size_toArray, ← rv.length]; exact hz
    refine call_list_lri (s := { s1 with heap := s1.heap.push (revObj a ((its.toArray.size : Int) - 1)) }) (I1.ok.hd hc) ⟨_, Heap.get?_push_size _ rfl, rfl, rfl⟩ (hl.push _) hne hn fun h' tk acc c' hk e' hi => ?_
    have hge : s1.heap.objs.size ≤ (s1.heap.push (revObj a ((its.toArray.size : Int) - 1))).objs.size := by
      have := Heap.lt_size (Heap.get?_push_size s1.heap (show (revObj a ((its.toArray.size : Int) - 1)).isFreed = false from rfl))
      exact Nat.le_of_lt this
    refine ⟨.ref _, upd H1 _ (.lst xs.reverse), I1.laid (t' := tk) (fun c o e => hk c o (Nat.ne_of_lt (Heap.lt_size e)) (k0 c o e)) hge (show ObjOk X.prog X.w _ _ _ (.lst xs.reverse) from ⟨by rw [List.length_reverse]; exact hz, acc.toList, c', RT.vals_rev rv hi, ?_⟩), rfl, q _ (I1.hok.fresh hge)⟩
    rw [Array.toArray_toList]
    exact e'
  · obtain ⟨its, rv, p', hz⟩ := I1.tuple hq
    have hl := rv.length
    have hn := line63
    have k0 : ∀ b o, s1.heap.get? b = some o → (s1.heap.push (rtObj a ((its.toArray.size : Int) - 1))).get? b = some o := fun b o e => Heap.get?_push_of_some _ e
    have hol := p'
    obtain ⟨ol, hol, _⟩ := id hol
    have hne : a ≠ s1.heap.objs.size := Nat.ne_of_lt (Heap.lt_size hol)
    have hn2 : its.toArray.size ≤ sizeLine := by rw [List.size_toArray, ← rv.length]; exact hz
    refine call_reversed_tup p' (fun A E Q k => len_tuple p' (by simp only [List.size_toArray] <;> omega) k) (args_nil ?_)
    refine call_list_rt (s := { s1 with heap := s1.heap.push (rtObj a ((its.toArray.size : Int) - 1)), toks := s1.toks + 1 + 1 }) (I1.ok.hd hc) ⟨_, Heap.get?_push_size _ rfl, rfl, rfl⟩ (Tr.tup_at p' (k0 a)) hne hn2 fun h' tk acc c' hk e' hi => ?_
    have hge : s1.heap.objs.size ≤ (s1.heap.push (rtObj a ((its.toArray.size : Int) - 1))).objs.size := by
      have := Heap.lt_size (Heap.get?_push_size s1.heap (show (rtObj a ((its.toArray.size : Int) - 1)).isFreed = false from rfl))
      exact Nat.le_of_lt this
    refine ⟨.ref _, upd H1 _ (.lst xs.reverse), I1.laid (t' := tk) (fun c o e => hk c o (Nat.ne_of_lt (Heap.lt_size e)) (k0 c o e)) hge (show ObjOk X.prog X.w _ _ _ (.lst xs.reverse) from ⟨by rw [List.length_reverse]; exact hz, acc.toList, c', RT.vals_rev rv hi, ?_⟩), rfl, q _ (I1.hok.fresh hge)⟩
    rw [Array.toArray_toList]
    exact e'
def listRev1 (K : PySem.W.Frag) (x : V) (H : Hp) (Q : VK) : Prop := ∃ (a : Addr) (xs : List V), x = .ref a ∧ (SqL K H a xs ∨ SqT K H a xs) ∧ ∀ q, H q = none → Q (.ref q) (upd H q (.lst xs.reverse))
section
variable {te : TE} {σ : L2.St} {H H0 : Hp} {Q : VK} {K : PySem.W.Frag} {a : Addr} {xs : List V} {l : List (Addr × HO)}
theorem rd_listRev (h : te σ H fun x H1 => listRev1 K x H1 Q) : tListRev K te σ H Q := h
theorem rd_listRevL (L : Led H0 H l) (hs : SqL K H a xs) (k : ∀ p H', Led H0 H' ((p, .lst xs.reverse) :: l) → Ts H H' → Q (.ref p) H') : listRev1 K (.ref a) H Q := ⟨a, xs, rfl, .inl hs, fun p hp => k p _ (L.push hp) (Ts.of (Same.push hp))⟩
theorem rd_listRevT (L : Led H0 H l) (hs : SqT K H a xs) (k : ∀ p H', Led H0 H' ((p, .lst xs.reverse) :: l) → Ts H H' → Q (.ref p) H') : listRev1 K (.ref a) H Q := ⟨a, xs, rfl, .inr hs, fun p hp => k p _ (L.push hp) (Ts.of (Same.push hp))⟩
end
end Tr
namespace Tr
open PySem PySem.Spec PyProof.Rows L2
section
variable {H0 H : Hp} {l : List (Addr × HO)} {Q : VK} {K : PySem.W.Frag} {a : Addr} {σ : L2.St} {te : TE} {g : TG} {tt : TT} {vs : List Nat}
/-- what f tells of each item, backwards -/
theorem lc_revI {ns : List Int} (f : Int → V) (L : Led H0 H l) (hS : ∀ H1, Ts H H1 → Same H0 H1 → (∀ l1, Led H0 H1 (l1 ++ l) → SqL K H1 a (ns.map V.int)))
    (hs : ∀ i n D H1, ns.reverse[i]? = some n → Led H0 H1 ((D, .lst ((ns.reverse.take i).map f)) :: l) → Ts H H1 → g (.int n) (wipe σ vs) H1 fun σ2 H2 => wipe σ2 vs = wipe σ vs ∧ tt σ2 H2 fun b H3 => if b = true then te σ2 H3 (put1 D (mapI H0 H l ns.reverse f D (i + 1))) else mapI H0 H l ns.reverse f D (i + 1) H3)
    (hd : ∀ D H1, Led H0 H1 ((D, .lst (ns.reverse.map f)) :: l) → Ts H H1 → Q (.ref D) H1) : lc (Itv K a (ns.map V.int).length) g tt te vs σ H Q := by
  intro D hD
  have L1 := L.push (o := .lst []) hD
  have hn : (ns.map V.int).length = ns.length := List.length_map ..
  refine ⟨fun i m H2 => m = ns.length - i ∧ i ≤ ns.length ∧ mapI H0 H l ns.reverse f D i H2, ⟨ns.length, by simp, Nat.zero_le _, L1, Ts.of (Same.push hD)⟩, ?_⟩
  rintro i m H2 ⟨rfl, hi, p⟩
  have q : SqL K H2 a (ns.map V.int) := hS H2 p.2 p.1.same [_] p.1
  by_cases hlt : i < ns.length
  · have hj : ns.length - 1 - i < ns.length := by omega
    have hx : (ns.map V.int)[(ns.map V.int).length - 1 - i]? = some (.int (ns[ns.length - 1 - i]'hj)) := by
      rw [hn, List.getElem?_map, List.getElem?_eq_getElem hj]
      rfl
    have hr : ns.reverse[i]? = some (ns[ns.length - 1 - i]'hj) := by
      rw [List.getElem?_reverse hlt, List.getElem?_eq_getElem hj]
    refine .inr ⟨⟨by omega, _, _, q, hx⟩, mapI H0 H l ns.reverse f D (i + 1), fun H' p' => ⟨ns.length - (i + 1), by omega, rfl, hlt, p'⟩, fun x H' y => ?_⟩
    obtain ⟨e, y⟩ := y
    subst e
    have e2 := (hx.symm.trans (y _ q))
    cases e2
    exact hs i _ D _ hr p.1 p.2
  · have e : i = ns.length := by omega
    subst e
    exact .inl ⟨by show _ ≤ _; omega, hd D H2 (p.1.to (by rw [← List.length_reverse, List.take_length])) p.2⟩
end
end Tr
namespace Tr
open PySem PySem.Spec PyProof.Rows L2
section
variable {H0 H : Hp} {l : List (Addr × HO)} {σ : L2.St} {p : Addr} {xs : List V} {v : V}
theorem rd_gSub {to ti : TE} {t : TSet} {R : L2.St → Hp → Prop} (h : to σ H fun o H1 => ti σ H1 fun i H2 => t o i v H2 fun H3 => R σ H3) : L2.gSub to ti t v σ H R := h
theorem rd_setL {R : Hp → Prop} {j : Nat} (L : Led H0 H l) (i : Nat) (h : l[i]? = some (p, .lst xs)) (hj : j < xs.length) (k : ∀ H', Led H0 H' (l.set i (p, .lst (xs.set j v))) → Ts H H' → R H') : rSetL (.ref p) (.int j) v H R :=
  ⟨p, xs, j, j, rfl, rfl, L.get i h, by unfold ixN; rw [if_pos (by omega), if_pos (by omega)]; simp, k _ (L.put i h) (Ts.put (L.get i h))⟩
end
end Tr
/-! What the law's helpers read off the script. -/
namespace Tr
def cell (ns : List Int) (k : Nat) : Int := ns.getD k 0
def rowCell (way c : Int) : Int :=
  if way = 0 then 1 - c % 3 else if way = 1 then [1, 1, 1, 0, -1, -2].getD (c % 6).toNat 0
  else if way = 2 then [1, 1, 1, 1, 1, 1 - c / 8 % 62, 0, 1].getD (c % 8).toNat 0 else 1 - c % 62
theorem rowCell_le (way c : Int) : rowCell way c ≤ 1 ∧ -60 ≤ rowCell way c := by
  unfold rowCell
  split
  · omega
  · split
    · have h : (c % 6).toNat < 6 := by omega
      generalize (c % 6).toNat = j at h
      match j, h with
      | 0, _ => decide
      | 1, _ => decide
      | 2, _ => decide
      | 3, _ => decide
      | 4, _ => decide
      | 5, _ => decide
    · split
      · have h : (c % 8).toNat < 8 := by omega
        generalize (c % 8).toNat = j at h
        have e : -60 ≤ 1 - c / 8 % 62 ∧ 1 - c / 8 % 62 ≤ 1 := by omega
        generalize 1 - c / 8 % 62 = z at e
        match j, h with
        | 0, _ => exact ⟨by show (1 : Int) ≤ 1; decide, by show (-60 : Int) ≤ 1; decide⟩
        | 1, _ => exact ⟨by show (1 : Int) ≤ 1; decide, by show (-60 : Int) ≤ 1; decide⟩
        | 2, _ => exact ⟨by show (1 : Int) ≤ 1; decide, by show (-60 : Int) ≤ 1; decide⟩
        | 3, _ => exact ⟨by show (1 : Int) ≤ 1; decide, by show (-60 : Int) ≤ 1; decide⟩
        | 4, _ => exact ⟨by show (1 : Int) ≤ 1; decide, by show (-60 : Int) ≤ 1; decide⟩
        | 5, _ => exact ⟨e.2, e.1⟩
        | 6, _ => exact ⟨by show (0 : Int) ≤ 1; decide, by show (-60 : Int) ≤ 0; decide⟩
        | 7, _ => exact ⟨by show (1 : Int) ≤ 1; decide, by show (-60 : Int) ≤ 1; decide⟩
      · omega
def rowBy (ns : List Int) (first count : Nat) (way : Int) : List Int := (List.range count).map fun k => rowCell way (cell ns (first + k))
theorem rowBy_len (ns : List Int) (first count : Nat) (way : Int) : (rowBy ns first count way).length = count := by
  unfold rowBy
  rw [List.length_map, List.length_range]
theorem rowBy_mem {ns : List Int} {first count : Nat} {way n : Int} (h : n ∈ rowBy ns first count way) : n ≤ 1 ∧ -60 ≤ n := by
  unfold rowBy at h
  obtain ⟨k, _, rfl⟩ := List.mem_map.mp h
  exact rowCell_le way _
def nodesOf (ns : List Int) : Nat := if cell ns 0 / 12 % 4 = 1 then 1 + (cell ns 0 / 48 % 60).toNat else 1 + (cell ns 0 % 12).toNat
theorem nodesOf_le (ns : List Int) : 1 ≤ nodesOf ns ∧ nodesOf ns ≤ 60 := by
  unfold nodesOf
  split <;> omega
def isRow (ns : List Int) : Prop := 1 ≤ ns.length ∧ ns.length ≤ 60 ∧ ∀ n ∈ ns, n ≤ 1 ∧ -60 ≤ n
instance (ns : List Int) : Decidable (isRow ns) := by
  unfold isRow
  infer_instance
theorem rowBy_row {ns : List Int} {first count : Nat} {way : Int} (h : 1 ≤ count ∧ count ≤ 60) : isRow (rowBy ns first count way) := by
  refine ⟨?_, ?_, fun n hn => rowBy_mem hn⟩
  · rw [rowBy_len]
    exact h.1
  · rw [rowBy_len]
    exact h.2
/-- the sums of the first, the first two .. -/
def sums (ns : List Int) : List Int := (List.range ns.length).map fun k => (ns.take (k + 1)).sum
theorem sums_len (ns : List Int) : (sums ns).length = ns.length := by
  unfold sums
  rw [List.length_map, List.length_range]
/-- turned by k -/
def turn (ns : List Int) (k : Nat) : List Int := ns.drop k ++ ns.take k
theorem turn_len {ns : List Int} {k : Nat} : (turn ns k).length = ns.length := by
  unfold turn
  rw [List.length_append, List.length_drop, List.length_take]
  omega
theorem turn_mem {ns : List Int} {k : Nat} {n : Int} (h : n ∈ turn ns k) : n ∈ ns := by
  unfold turn at h
  rcases List.mem_append.mp h with h | h
  · exact List.mem_of_mem_drop h
  · exact List.mem_of_mem_take h
end Tr
namespace Tr
/-- all beginnings are above nought -/
def goodB (ns : List Int) : Bool := (sums ns).all fun t => decide (1 ≤ t)
theorem goodB_iff {ns : List Int} : goodB ns = true ↔ ∀ k, k < ns.length → 1 ≤ (ns.take (k + 1)).sum := by
  unfold goodB sums
  rw [List.all_eq_true]
  constructor
  · intro h k hk
    exact of_decide_eq_true (h _ (List.mem_map.mpr ⟨k, List.mem_range.mpr hk, rfl⟩))
  · intro h t ht
    obtain ⟨k, hk, rfl⟩ := List.mem_map.mp ht
    exact decide_eq_true (h k (List.mem_range.mp hk))
theorem goodB_no {ns : List Int} {k : Nat} (hk : k < ns.length) (h : (ns.take (k + 1)).sum < 1) : goodB ns = false := by
  cases e : goodB ns with
  | false => rfl
  | true =>
    have := goodB_iff.mp e k hk
    omega
theorem sums_at {ns : List Int} {i : Nat} {t : Int} (h : (sums ns)[i]? = some t) : i < ns.length ∧ t = (ns.take (i + 1)).sum := by
  have hi : i < ns.length := by
    have := (List.getElem?_eq_some_iff.mp h).1
    rw [sums_len] at this
    exact this
  refine ⟨hi, ?_⟩
  unfold sums at h
  rw [List.getElem?_map, List.getElem?_range hi] at h
  exact (Option.some.inj h).symm
end Tr
namespace Tr
/-- the numbers by which a row is turned into a good one -/
def startsOf (ns : List Int) : List Nat := (List.range ns.length).filter fun k => goodB (turn ns k)
theorem turn_row {ns : List Int} {j : Nat} (h : isRow ns) : isRow (turn ns j) := by
  refine ⟨?_, ?_, fun n hn => h.2.2 n (turn_mem hn)⟩
  · rw [turn_len]
    exact h.1
  · rw [turn_len]
    exact h.2.1
end Tr
namespace Tr
open PySem PySem.Spec PyProof.Rows L2
theorem turn_cut {ns : List Int} {j : Nat} : cutV (ns.map V.int) (some (j : Int)) none ++ cutV (ns.map V.int) none (some (j : Int)) = (turn ns j).map V.int := by
  rw [cut_from, cut_to]
  unfold turn
  rw [List.map_append, List.map_drop, List.map_take]
end Tr
/-! Forests: b are the boughs of the first tree, r the other trees. -/
namespace Tr
inductive Gr where
  | nil : Gr
  | cons (b r : Gr) : Gr
namespace Gr
def len : Gr → Nat
  | nil => 0
  | cons _ r => r.len + 1
def size : Gr → Nat
  | nil => 0
  | cons b r => b.size + r.size + 1
def depth : Gr → Nat
  | nil => 0
  | cons b r => max (b.depth + 1) r.depth
def word : Gr → List Int
  | nil => []
  | cons b r => (b.len : Int) :: (b.word ++ r.word)
def app : Gr → Gr → Gr
  | nil, g => g
  | cons b r, g => cons b (r.app g)
def rev : Gr → Gr
  | nil => nil
  | cons b r => r.rev.app (cons b nil)
def take : Nat → Gr → Gr
  | 0, _ => nil
  | _ + 1, nil => nil
  | n + 1, cons b r => cons b (take n r)
def drop : Nat → Gr → Gr
  | 0, g => g
  | _ + 1, nil => nil
  | n + 1, cons _ r => drop n r
theorem depth_le : ∀ g : Gr, g.depth ≤ g.size
  | nil => Nat.le_refl 0
  | cons b r => by
    have := depth_le b
    have := depth_le r
    simp only [depth, size]
    omega
theorem word_len : ∀ g : Gr, g.word.length = g.size
  | nil => rfl
  | cons b r => by
    simp only [word, size, List.length_cons, List.length_append, word_len b, word_len r]
theorem len_le : ∀ g : Gr, g.len ≤ g.size
  | nil => Nat.le_refl 0
  | cons b r => by
    have := len_le r
    simp only [len, size]
    omega
theorem app_nil : ∀ g : Gr, g.app nil = g
  | nil => rfl
  | cons b r => by rw [app, app_nil r]
theorem app_assoc : ∀ a b c : Gr, (a.app b).app c = a.app (b.app c)
  | nil, _, _ => rfl
  | cons x r, b, c => by simp only [app, app_assoc r b c]
theorem app_word : ∀ a b : Gr, (a.app b).word = a.word ++ b.word
  | nil, _ => rfl
  | cons x r, b => by simp only [app, word, app_word r b, List.cons_append, List.append_assoc]
theorem app_size : ∀ a b : Gr, (a.app b).size = a.size + b.size
  | nil, b => by simp [app, size]
  | cons x r, b => by
    simp only [app, size, app_size r b]
    omega
theorem app_len : ∀ a b : Gr, (a.app b).len = a.len + b.len
  | nil, b => by simp [app, len]
  | cons x r, b => by
    simp only [app, len, app_len r b]
    omega
theorem rev_size : ∀ g : Gr, g.rev.size = g.size
  | nil => rfl
  | cons b r => by
    simp only [rev, app_size, size, rev_size r]
    omega
theorem take_drop : ∀ (n : Nat) (g : Gr), (take n g).app (drop n g) = g
  | 0, _ => rfl
  | _ + 1, nil => rfl
  | n + 1, cons b r => by simp only [take, drop, app, take_drop n r]
theorem take_len : ∀ (n : Nat) (g : Gr), n ≤ g.len → (take n g).len = n
  | 0, _, _ => rfl
  | n + 1, nil, h => by simp [len] at h
  | n + 1, cons b r, h => by
    simp only [len] at h
    simp only [take, len, take_len n r (by omega)]
theorem drop_len : ∀ (n : Nat) (g : Gr), (drop n g).len = g.len - n
  | 0, _ => rfl
  | n + 1, nil => by simp [drop, len]
  | n + 1, cons b r => by
    simp only [drop, len, drop_len n r]
    omega
theorem take_app : ∀ a b : Gr, take a.len (a.app b) = a
  | nil, b => by cases b <;> rfl
  | cons x r, b => by simp only [len, app, take, take_app r b]
theorem drop_app : ∀ a b : Gr, drop a.len (a.app b) = b
  | nil, b => by cases b <;> rfl
  | cons x r, b => by simp only [len, app, drop, drop_app r b]
/-- the word's sum, and its numbers -/
theorem word_nn : ∀ (g : Gr) (n : Int), n ∈ g.word → 0 ≤ n
  | nil, _, h => by simp [word] at h
  | cons b r, n, h => by
    simp only [word, List.mem_cons, List.mem_append] at h
    rcases h with h | h | h
    · omega
    · exact word_nn b n h
    · exact word_nn r n h
/-! ### a word read from the right -/
def par : List Int → Gr
  | [] => nil
  | n :: w => cons (take n.toNat (par w)) (drop n.toNat (par w))
def okW : List Int → Prop
  | [] => True
  | n :: w => 0 ≤ n ∧ n ≤ (par w).len ∧ okW w
theorem par_app : ∀ (g : Gr) (w : List Int), par (g.word ++ w) = g.app (par w)
  | nil, _ => rfl
  | cons b r, w => by
    have e : par (b.word ++ (r.word ++ w)) = b.app (r.app (par w)) := by rw [par_app b, par_app r]
    simp only [word, List.cons_append, List.append_assoc, par, e, Int.toNat_natCast, take_app, drop_app, app]
theorem par_word (g : Gr) : par g.word = g := by
  have := par_app g []
  rw [List.append_nil, par, app_nil] at this
  exact this
theorem okW_app : ∀ (g : Gr) (w : List Int), okW w → okW (g.word ++ w)
  | nil, _, h => h
  | cons b r, w, h => by
    have h1 := okW_app b (r.word ++ w) (okW_app r w h)
    simp only [word, List.cons_append, List.append_assoc]
    refine ⟨by omega, ?_, h1⟩
    rw [par_app, app_len]
    omega
theorem okW_word (g : Gr) : okW g.word := by
  have := okW_app g [] trivial
  rwa [List.append_nil] at this
theorem word_par : ∀ w : List Int, okW w → (par w).word = w
  | [], _ => rfl
  | n :: w, h => by
    obtain ⟨h1, h2, h3⟩ := h
    have e := word_par w h3
    simp only [par, word]
    rw [take_len _ _ (by omega), ← app_word, take_drop, e]
    congr 1
    omega
theorem len_par : ∀ w : List Int, okW w → ((par w).len : Int) = (w.map fun n => 1 - n).sum
  | [], _ => rfl
  | n :: w, h => by
    obtain ⟨h1, h2, h3⟩ := h
    have e := len_par w h3
    simp only [par, len, List.map_cons, List.sum_cons, drop_len]
    rw [← e]
    omega
theorem size_par {w : List Int} (h : okW w) : (par w).size = w.length := by rw [← word_len, word_par w h]
theorem okW_tail {n : Int} {w : List Int} (h : okW (n :: w)) : okW w := h.2.2
theorem okW_drop : ∀ (k : Nat) {w : List Int}, okW w → okW (w.drop k)
  | 0, _, h => h
  | k + 1, [], _ => by simp [okW]
  | k + 1, n :: w, h => okW_drop k h.2.2
end Gr
/-- the test that the program makes -/
def rowOf (w : List Int) : List Int := w.reverse.map fun n => 1 - n
def isWB (w : List Int) : Bool := w.all (fun n => decide (0 ≤ n)) && (decide (0 < w.length) && goodB (rowOf w))
theorem goodB_snoc {l : List Int} {x : Int} : goodB (l ++ [x]) = true ↔ goodB l = true ∧ 1 ≤ l.sum + x := by
  rw [goodB_iff, goodB_iff]
  constructor
  · intro h
    refine ⟨fun k hk => ?_, ?_⟩
    · have := h k (by simp; omega)
      rwa [List.take_append_of_le_length (by omega)] at this
    · have := h l.length (by simp)
      rw [List.take_of_length_le (by simp), List.sum_append] at this
      simpa using this
  · rintro ⟨h1, h2⟩ k hk
    by_cases e : k < l.length
    · rw [List.take_append_of_le_length (by omega)]
      exact h1 k e
    · rw [List.take_of_length_le (by simp; omega), List.sum_append]
      simpa using h2
theorem rowOf_cons {n : Int} {w : List Int} : rowOf (n :: w) = rowOf w ++ [1 - n] := by simp [rowOf]
theorem rowOf_sum (w : List Int) : (rowOf w).sum = (w.map fun n => 1 - n).sum := by
  induction w with
  | nil => rfl
  | cons n w ih =>
    rw [rowOf_cons, List.sum_append, ih, List.map_cons, List.sum_cons]
    simp only [List.sum_cons, List.sum_nil]
    omega
theorem okW_iff : ∀ w : List Int, Gr.okW w ↔ (∀ n ∈ w, 0 ≤ n) ∧ goodB (rowOf w) = true
  | [] => by
    refine ⟨fun _ => ⟨by simp, ?_⟩, fun _ => trivial⟩
    rw [goodB_iff]
    intro k hk
    simp [rowOf] at hk
  | n :: w => by
    rw [rowOf_cons, goodB_snoc]
    have ih := okW_iff w
    constructor
    · rintro ⟨h1, h2, h3⟩
      obtain ⟨i1, i2⟩ := ih.mp h3
      have e := Gr.len_par w h3
      rw [← rowOf_sum] at e
      refine ⟨?_, i2, by omega⟩
      intro m hm
      rcases List.mem_cons.mp hm with rfl | hm
      · exact h1
      · exact i1 m hm
    · rintro ⟨h1, h2, h3⟩
      have hw := ih.mpr ⟨fun m hm => h1 m (List.mem_cons_of_mem _ hm), h2⟩
      have e := Gr.len_par w hw
      rw [← rowOf_sum] at e
      exact ⟨h1 n (List.mem_cons_self ..), by omega, hw⟩
theorem isWB_iff {w : List Int} : isWB w = true ↔ 0 < w.length ∧ Gr.okW w := by
  unfold isWB
  rw [okW_iff]
  simp only [Bool.and_eq_true, List.all_eq_true, decide_eq_true_eq]
  constructor
  · rintro ⟨a, b, c⟩
    exact ⟨b, a, c⟩
  · rintro ⟨b, a, c⟩
    exact ⟨a, b, c⟩
theorem isWB_word {g : Gr} (h : 0 < g.size) : isWB g.word = true := isWB_iff.mpr ⟨by rw [Gr.word_len]; exact h, Gr.okW_word g⟩
end Tr
/-! Forests on the heap: tuples of tuples. -/
namespace Tr
open PySem PySem.Spec PyProof.Rows L2
def GAt (H : Hp) : Gr → List V → Prop
  | .nil, xs => xs = []
  | .cons b r, xs => ∃ a ys zs, xs = .ref a :: zs ∧ H a = some (.tup ys) ∧ GAt H b ys ∧ GAt H r zs
theorem GAt.mono {H H' : Hp} (t : Ts H H') : ∀ {g : Gr} {xs : List V}, GAt H g xs → GAt H' g xs
  | .nil, _, h => h
  | .cons b r, _, ⟨a, ys, zs, e, h, h1, h2⟩ => ⟨a, ys, zs, e, t _ _ h, h1.mono t, h2.mono t⟩
theorem GAt.len {H : Hp} : ∀ {g : Gr} {xs : List V}, GAt H g xs → xs.length = g.len
  | .nil, _, h => by
    cases h
    rfl
  | .cons b r, _, ⟨a, ys, zs, e, h, h1, h2⟩ => by rw [e, List.length_cons, h2.len, Gr.len]
theorem GAt.app {H : Hp} : ∀ {g k : Gr} {xs ys : List V}, GAt H g xs → GAt H k ys → GAt H (g.app k) (xs ++ ys)
  | .nil, _, _, _, h, hk => by
    cases h
    exact hk
  | .cons b r, _, _, _, ⟨a, us, zs, e, h, h1, h2⟩, hk => ⟨a, us, zs ++ _, by rw [e]; rfl, h, h1, h2.app hk⟩
theorem GAt.one {H : Hp} {a : Addr} {b : Gr} {ys : List V} (h : H a = some (.tup ys)) (hb : GAt H b ys) : GAt H (.cons b .nil) [.ref a] := ⟨a, ys, [], rfl, h, hb, rfl⟩
theorem GAt.rev {H : Hp} : ∀ {g : Gr} {xs : List V}, GAt H g xs → GAt H g.rev xs.reverse
  | .nil, _, h => by
    cases h
    rfl
  | .cons b r, _, ⟨a, ys, zs, e, h, h1, h2⟩ => by
    rw [e, List.reverse_cons]
    exact h2.rev.app (GAt.one h h1)
theorem GAt.take {H : Hp} : ∀ (n : Nat) {g : Gr} {xs : List V}, GAt H g xs → GAt H (g.take n) (xs.take n)
  | 0, _, _, _ => rfl
  | _ + 1, .nil, _, h => by
    cases h
    rfl
  | n + 1, .cons b r, _, ⟨a, ys, zs, e, h, h1, h2⟩ => ⟨a, ys, zs.take n, by rw [e]; rfl, h, h1, h2.take n⟩
theorem GAt.drop {H : Hp} : ∀ (n : Nat) {g : Gr} {xs : List V}, GAt H g xs → GAt H (g.drop n) (xs.drop n)
  | 0, _, _, h => h
  | _ + 1, .nil, _, h => by
    cases h
    rfl
  | n + 1, .cons b r, _, ⟨a, ys, zs, e, h, h1, h2⟩ => by
    rw [e]
    exact h2.drop n
/-! ### as data -/
def Gr.data : Gr → List PyData
  | .nil => []
  | .cons b r => .tuple b.data :: r.data
theorem GAt.dp {K : PySem.W.Frag} {H : Hp} : ∀ {g : Gr} {xs : List V}, GAt H g xs → DpAll K H xs g.data
  | .nil, _, h => by
    cases h
    exact .nil
  | .cons b r, _, ⟨a, ys, zs, e, h, h1, h2⟩ => by
    rw [e]
    exact .cons (.tup (SqT.of h) h1.dp) h2.dp
theorem depth_gr : ∀ g : Gr, PyData.depthAll g.data = g.depth
  | .nil => by simp only [Gr.data, PyData.depthAll, Gr.depth]
  | .cons b r => by simp only [Gr.data, PyData.depthAll, PyData.depth, Gr.depth, depth_gr b, depth_gr r]
theorem canLay_gr : ∀ g : Gr, PyData.canLayAll0 g.data = true
  | .nil => by simp only [Gr.data, PyData.canLayAll0]
  | .cons b r => by simp only [Gr.data, PyData.canLayAll0, PyData.canLay0, canLay_gr b, canLay_gr r, Bool.and_self]
theorem shaped_gr {g : Gr} (h : g.size ≤ 62) : SeqAt.shaped (.list g.data) = true := by
  have := g.depth_le
  unfold SeqAt.shaped
  simp only [PyData.canLay0, canLay_gr, PyData.depth, depth_gr, Bool.true_and]
  exact decide_eq_true (by omega)
theorem eqv_gr : ∀ g : Gr, PyData.eqvAll g.data g.data = true
  | .nil => by simp only [Gr.data, PyData.eqvAll]
  | .cons b r => by simp only [Gr.data, PyData.eqvAll, PyData.eqv, eqv_gr b, eqv_gr r, Bool.and_self]
theorem eqv_nil : ∀ g : Gr, PyData.eqvAll g.data [] = decide (g.len = 0)
  | .nil => by simp [Gr.data, PyData.eqvAll, Gr.len]
  | .cons b r => by simp [Gr.data, PyData.eqvAll, Gr.len]
theorem eqvAll_self_ints (ns : List Int) : PyData.eqvAll (ns.map PyData.int) (ns.map PyData.int) = true := by
  rw [eqvAll_ints]
  simp
section
variable {K : PySem.W.Frag} {H : Hp} {Q : VK} {p q : Addr} {g : Gr} {xs ys : List V}
theorem dp_gr (h : SqL K H p xs) (hg : GAt H g xs) : Dp K H (.ref p) (.list g.data) := .lst h hg.dp
/-- two lists of the same forest -/
theorem rd_eqG (h1 : SqL K H p xs) (g1 : GAt H g xs) (h2 : SqL K H q ys) (g2 : GAt H g ys) (hz : g.size ≤ 62) (k : Q (.bl true) H) : gEq K (.ref p) (.ref q) H Q :=
  rd_eqD (dp_gr h1 g1) (dp_gr h2 g2) (shaped_gr hz) (shaped_gr hz) (by rw [PyData.eqv, eqv_gr]; exact k)
theorem rd_neG (h1 : SqL K H p xs) (g1 : GAt H g xs) (h2 : SqL K H q ys) (g2 : GAt H g ys) (hz : g.size ≤ 62) (k : Q (.bl false) H) : gNe K (.ref p) (.ref q) H Q :=
  rd_neD (dp_gr h1 g1) (dp_gr h2 g2) (shaped_gr hz) (shaped_gr hz) (by rw [PyData.eqv, eqv_gr]; exact k)
/-- a list of trees and an empty one -/
theorem rd_neNil (h1 : SqL K H p xs) (g1 : GAt H g xs) (h2 : SqL K H q []) (hz : g.size ≤ 62) (k : Q (.bl (!decide (g.len = 0))) H) : gNe K (.ref p) (.ref q) H Q :=
  rd_neD (dp_gr h1 g1) (.lst h2 .nil) (shaped_gr hz) (shaped_gr (g := .nil) (Nat.zero_le _)) (by rw [PyData.eqv, eqv_nil]; exact k)
/-- lists of data -/
theorem shaped_two {d e : PyData} (h1 : SeqAt.shaped d = true) (h2 : SeqAt.shaped e = true) (d1 : d.depth ≤ 63) (e1 : e.depth ≤ 63) : SeqAt.shaped (.list [d, e]) = true := by
  have a := SeqAt.canLay_of_shaped h1
  have b := SeqAt.canLay_of_shaped h2
  unfold SeqAt.shaped
  simp only [PyData.canLay0, PyData.canLayAll0, PyData.depth, PyData.depthAll, a, b, Bool.true_and, Bool.and_true]
  exact decide_eq_true (by omega)
theorem eqv_two {d e : PyData} (h1 : PyData.eqv d d = true) (h2 : PyData.eqv e e = true) : PyData.eqv (.list [d, e]) (.list [d, e]) = true := by simp only [PyData.eqv, PyData.eqvAll, h1, h2, Bool.and_self]
end
/-! ### what a list of numbers picks -/
def ofl (T : Nat → Gr) : List Nat → Gr
  | [] => .nil
  | j :: js => .cons (T j) (ofl T js)
theorem ofl_size (T : Nat → Gr) : ∀ js : List Nat, (ofl T js).size = (js.map fun j => (T j).size + 1).sum
  | [] => rfl
  | j :: js => by
    simp only [ofl, Gr.size, List.map_cons, List.sum_cons, ofl_size T js]
    omega
theorem ofl_len (T : Nat → Gr) : ∀ js : List Nat, (ofl T js).len = js.length
  | [] => rfl
  | j :: js => by simp only [ofl, Gr.len, ofl_len T js, List.length_cons]
theorem ofl_congr {T U : Nat → Gr} : ∀ {js : List Nat}, (∀ j ∈ js, T j = U j) → ofl T js = ofl U js
  | [], _ => rfl
  | j :: js, h => by simp only [ofl, h j (List.mem_cons_self ..), ofl_congr fun i hi => h i (List.mem_cons_of_mem _ hi)]
theorem GAt.ofl {H : Hp} {T : Nat → Gr} {v : Nat → V} : ∀ {js : List Nat}, (∀ j ∈ js, GAt H (.cons (T j) .nil) [v j]) → GAt H (ofl T js) (js.map v)
  | [], _ => rfl
  | j :: js, h => by
    obtain ⟨a, ys, zs, e, h1, h2, h3⟩ := h j (List.mem_cons_self ..)
    have e2 : v j = .ref a := (List.cons.inj e).1
    exact ⟨a, ys, js.map v, by rw [List.map_cons, e2], h1, h2, GAt.ofl fun i hi => h i (List.mem_cons_of_mem _ hi)⟩
/-- each node is counted once -/
theorem count_once {n : Nat} (P : Nat → Option Nat) (S : Nat → Nat) : ∀ (l : List Nat), (∀ c ∈ l, ∀ p, P c = some p → p < n) →
    (l.map S).sum = ((l.filter fun c => (P c).isNone).map S).sum + ((List.range n).map fun p => ((l.filter fun c => P c == some p).map S).sum).sum
  | [], _ => by
    simp only [List.map_nil, List.filter_nil, List.sum_nil]
    have : ∀ m : Nat, ((List.range m).map fun _ => 0).sum = 0 := fun m => by
      induction m with
      | zero => rfl
      | succ m ih => rw [List.range_succ, List.map_append, List.sum_append, ih]; rfl
    rw [this, Nat.add_zero]
  | c :: l, h => by
    have ih := count_once P S l fun d hd => h d (List.mem_cons_of_mem _ hd)
    have add : ∀ (m : Nat) (f g : Nat → Nat), ((List.range m).map fun p => f p + g p).sum = ((List.range m).map f).sum + ((List.range m).map g).sum := fun m f g => by
      induction m with
      | zero => rfl
      | succ m ih =>
        rw [List.range_succ]
        simp only [List.map_append, List.sum_append, ih, List.map_cons, List.map_nil, List.sum_cons, List.sum_nil]
        omega
    have one : ∀ (m q x : Nat), ((List.range m).map fun p => if q = p then x else 0).sum = if q < m then x else 0 := fun m q x => by
      induction m with
      | zero => simp
      | succ m ih =>
        rw [List.range_succ]
        simp only [List.map_append, List.sum_append, ih, List.map_cons, List.map_nil, List.sum_cons, List.sum_nil]
        by_cases h1 : q < m
        · rw [if_pos h1, if_neg (by omega), if_pos (by omega)]
          omega
        · by_cases h2 : q = m
          · rw [if_neg h1, if_pos h2, if_pos (by omega)]
            omega
          · rw [if_neg h1, if_neg h2, if_neg (by omega)]
            omega
    cases e : P c with
    | none =>
      have e1 : ∀ p, ((c :: l).filter fun c => P c == some p) = l.filter fun c => P c == some p := fun p => by simp [e]
      simp only [e1]
      rw [List.filter_cons_of_pos (by simp [e])]
      simp only [List.map_cons, List.sum_cons, ih]
      omega
    | some q =>
      have hq := h c (List.mem_cons_self ..) q e
      have e1 : ∀ p, (((c :: l).filter fun c => P c == some p).map S).sum = (if q = p then S c else 0) + ((l.filter fun c => P c == some p).map S).sum := fun p => by
        by_cases hp : q = p
        · rw [List.filter_cons_of_pos (by simp [e, hp]), if_pos hp]
          rfl
        · rw [List.filter_cons_of_neg (by simp [e, hp]), if_neg hp]
          omega
      simp only [e1]
      rw [add, one, if_pos hq, List.filter_cons_of_neg (by simp [e])]
      simp only [List.map_cons, List.sum_cons, ih]
      omega
/-- the whole forest's size -/
theorem grove_size {n : Nat} (P : Nat → Option Nat) (T : Nat → Gr) (hP : ∀ c, c < n → ∀ p, P c = some p → p < n) (hT : ∀ j, j < n → T j = Tr.ofl T ((List.range n).filter fun c => P c == some j)) :
    (Tr.ofl T ((List.range n).filter fun c => (P c).isNone)).size = n := by
  have h := count_once (n := n) P (fun j => (T j).size + 1) (List.range n) fun c hc => hP c (List.mem_range.mp hc)
  rw [ofl_size]
  have e : ((List.range n).map fun j => (T j).size + 1) = (List.range n).map fun p => (((List.range n).filter fun c => P c == some p).map fun j => (T j).size + 1).sum + 1 := by
    apply List.map_congr_left
    intro j hj
    have e1 := hT j (List.mem_range.mp hj)
    have e2 := congrArg Gr.size e1
    rw [ofl_size] at e2
    omega
  have inc : ∀ (m : Nat) (f : Nat → Nat), ((List.range m).map fun p => f p + 1).sum = ((List.range m).map f).sum + m := fun m f => by
    induction m with
    | zero => rfl
    | succ m ih =>
      rw [List.range_succ]
      simp only [List.map_append, List.sum_append, ih, List.map_cons, List.map_nil, List.sum_cons, List.sum_nil]
      omega
  rw [e, inc] at h
  omega
end Tr
namespace Tr
open PySem PySem.Spec PyProof.Rows L2
/-- a new list of trees -/
def newG (H : Hp) (Q : VK) (g : Gr) : Prop := ∀ p xs H', Led H H' [(p, .lst xs)] → GAt H' g xs → Q (.ref p) H'
end Tr
namespace Tr
open PySem PySem.Spec PyProof.Rows L2
/-! ### a row of lists -/
def rows (n : Nat) (A : Nat → Addr) (B : Nat → List Nat) : List (Addr × HO) := (List.range n).map fun i => (A i, .lst ((B i).map fun (j : Nat) => V.int j))
theorem rows_at {n i : Nat} {A : Nat → Addr} {B : Nat → List Nat} (h : i < n) : (rows n A B)[i]? = some (A i, .lst ((B i).map fun (j : Nat) => V.int j)) := by
  unfold rows
  rw [List.getElem?_map, List.getElem?_range h]
  rfl
theorem rows_set {n i k : Nat} {A : Nat → Addr} {B C : Nat → List Nat} (h : i < n) (hi : C i = B i ++ [k]) (ho : ∀ j, j ≠ i → C j = B j) : (rows n A B).set i (A i, .lst ((B i).map (fun (j : Nat) => V.int j) ++ [.int k])) = rows n A C := by
  apply List.ext_getElem?
  intro j
  rw [List.getElem?_set]
  by_cases hj : i = j
  · subst hj
    rw [if_pos rfl, rows_at h, hi, if_pos (by unfold rows; simpa using h), List.map_append]
    rfl
  · rw [if_neg hj]
    by_cases hn : j < n
    · rw [rows_at hn, rows_at hn, ho j (Ne.symm hj)]
    · unfold rows
      rw [List.getElem?_eq_none (by simpa using hn), List.getElem?_eq_none (by simpa using hn)]
theorem rows_congr {n : Nat} {A : Nat → Addr} {B C : Nat → List Nat} (h : ∀ j, j < n → B j = C j) : rows n A B = rows n A C := by
  unfold rows
  apply List.map_congr_left
  intro j hj
  rw [h j (List.mem_range.mp hj)]
/-! ### whose bough a node is -/
def parOf (ns : List Int) (first : Nat) (roots : Int) (k : Nat) : Option Nat :=
  if k = 0 ∨ cell ns (first + k) % roots = 1 then none else if roots = 99 ∧ cell ns (first + k) % 16 > 0 then some 0 else if cell ns (first + k) / 64 % 3 = 0 then some (k - 1) else some (cell ns (first + k) / 192 % k).toNat
theorem parOf_lt {ns : List Int} {first : Nat} {roots : Int} {k p : Nat} (h : parOf ns first roots k = some p) : p < k := by
  unfold parOf at h
  split at h
  · cases h
  · rename_i h0
    have hk : k ≠ 0 := fun z => h0 (.inl z)
    split at h
    · cases h
      omega
    · split at h
      · cases h
        omega
      · cases h
        have h1 := Int.emod_nonneg (cell ns (first + k) / 192) (b := k) (by omega)
        have h2 := Int.emod_lt_of_pos (cell ns (first + k) / 192) (b := k) (by omega)
        omega
def chl (P : Nat → Option Nat) (m p : Nat) : List Nat := (List.range m).filter fun c => P c == some p
def tops (P : Nat → Option Nat) (m : Nat) : List Nat := (List.range m).filter fun c => (P c).isNone
theorem chl_same {P : Nat → Option Nat} {m p : Nat} (h : P m = some p) : chl P (m + 1) p = chl P m p ++ [m] := by
  unfold chl
  rw [List.range_succ, List.filter_append]
  simp [h]
theorem chl_other {P : Nat → Option Nat} {m p : Nat} (h : P m ≠ some p) : chl P (m + 1) p = chl P m p := by
  unfold chl
  rw [List.range_succ, List.filter_append]
  simp [h]
theorem tops_same {P : Nat → Option Nat} {m : Nat} (h : P m = none) : tops P (m + 1) = tops P m ++ [m] := by
  unfold tops
  rw [List.range_succ, List.filter_append]
  simp [h]
theorem tops_other {P : Nat → Option Nat} {m p : Nat} (h : P m = some p) : tops P (m + 1) = tops P m := by
  unfold tops
  rw [List.range_succ, List.filter_append]
  simp [h]
theorem chl_len (P : Nat → Option Nat) (m p : Nat) : (chl P m p).length ≤ m := Nat.le_trans (List.length_filter_le _ _) (by rw [List.length_range]; exact Nat.le_refl m)
theorem tops_len (P : Nat → Option Nat) (m : Nat) : (tops P m).length ≤ m := Nat.le_trans (List.length_filter_le _ _) (by rw [List.length_range]; exact Nat.le_refl m)
theorem chl_mem {P : Nat → Option Nat} {m p c : Nat} (h : c ∈ chl P m p) : c < m ∧ P c = some p := by
  unfold chl at h
  rw [List.mem_filter] at h
  exact ⟨List.mem_range.mp h.1, by simpa using h.2⟩
end Tr
namespace Tr
open PySem PySem.Spec PyProof.Rows L2
theorem two_ok {g : Gr} (ns : List Int) (h : g.size ≤ 61) : SeqAt.shaped (.list [.list g.data, .list (ns.map PyData.int)]) = true ∧ PyData.eqv (.list [.list g.data, .list (ns.map PyData.int)]) (.list [.list g.data, .list (ns.map PyData.int)]) = true := by
  have := g.depth_le
  constructor
  · refine shaped_two (shaped_gr (by omega)) (shaped_ints ns) ?_ ?_
    · simp only [PyData.depth, depth_gr]
      omega
    · simp only [PyData.depth, depth_ints]
      omega
  · refine eqv_two ?_ ?_
    · rw [PyData.eqv, eqv_gr]
    · rw [PyData.eqv, eqvAll_self_ints]
end Tr
/-! The starts of a row: as many as its sum. -/
namespace Tr
/-- the least of f at k, k + 1, .. k + m -/
def mn (f : Nat → Int) (k : Nat) : Nat → Int
  | 0 => f k
  | m + 1 => min (mn f k m) (f (k + (m + 1)))
theorem mn_le (f : Nat → Int) (k : Nat) : ∀ m, mn f k m ≤ f k
  | 0 => Int.le_refl _
  | m + 1 => Int.le_trans (Int.min_le_left _ _) (mn_le f k m)
theorem mn_cons (f : Nat → Int) (k : Nat) : ∀ m, mn f k (m + 1) = min (f k) (mn f (k + 1) m)
  | 0 => rfl
  | m + 1 => by
    have ih := mn_cons f k m
    have e : k + 1 + (m + 1) = k + (m + 1 + 1) := by omega
    show min (mn f k (m + 1)) (f (k + (m + 1 + 1))) = min (f k) (min (mn f (k + 1) m) (f (k + 1 + (m + 1))))
    rw [ih, e]
    omega
theorem mn_lt {f : Nat → Int} {k : Nat} {v : Int} : ∀ {m}, v < mn f k m ↔ ∀ j, j ≤ m → v < f (k + j)
  | 0 => by
    constructor
    · intro h j hj
      have e : j = 0 := by omega
      subst e
      exact h
    · intro h
      exact h 0 (Nat.le_refl _)
  | m + 1 => by
    have ih := mn_lt (f := f) (k := k) (v := v) (m := m)
    have e : mn f k (m + 1) = min (mn f k m) (f (k + (m + 1))) := rfl
    constructor
    · intro h j hj
      rw [e] at h
      by_cases hm : j ≤ m
      · exact ih.mp (by omega) j hm
      · have e2 : j = m + 1 := by omega
        subst e2
        omega
    · intro h
      rw [e]
      have h1 := ih.mpr fun j hj => h j (by omega)
      have h2 := h (m + 1) (Nat.le_refl _)
      omega
theorem mn_shift {f : Nat → Int} {k n : Nat} {s : Int} : ∀ m, (∀ j, j ≤ m → f (k + n + j) = f (k + j) + s) → mn f (k + n) m = mn f k m + s
  | 0, h => h 0 (Nat.le_refl _)
  | m + 1, h => by
    have ih := mn_shift m fun j hj => h j (by omega)
    have e := h (m + 1) (Nat.le_refl _)
    show min (mn f (k + n) m) (f (k + n + (m + 1))) = min (mn f k m) (f (k + (m + 1))) + s
    rw [ih, e]
    omega
theorem mn_congr {f g : Nat → Int} {k : Nat} : ∀ m, (∀ j, j ≤ m → f (k + j) = g (k + j)) → mn f k m = mn g k m
  | 0, h => h 0 (Nat.le_refl _)
  | m + 1, h => by
    show min _ _ = min _ _
    rw [mn_congr m fun j hj => h j (by omega), h (m + 1) (Nat.le_refl _)]
/-! ### the beginnings of the row written twice -/
def pre2 (ns : List Int) (i : Nat) : Int := ((ns ++ ns).take i).sum
theorem pre2_succ {ns : List Int} {i : Nat} {x : Int} (h : (ns ++ ns)[i]? = some x) : pre2 ns (i + 1) = pre2 ns i + x := by
  unfold pre2
  rw [List.take_add_one, h, List.sum_append]
  simp
theorem pre2_period {ns : List Int} {i : Nat} (h : i ≤ ns.length) : pre2 ns (i + ns.length) = pre2 ns i + ns.sum := by
  unfold pre2
  rw [List.take_append, List.take_append, List.take_of_length_le (by omega : ns.length ≤ i + ns.length), List.sum_append, List.sum_append]
  have e1 : i + ns.length - ns.length = i := by omega
  have e2 : i - ns.length = 0 := by omega
  rw [e1, e2]
  simp
  omega
theorem turn_pre2 {ns : List Int} {k j : Nat} (hk : k ≤ ns.length) (hj : j ≤ ns.length) : ((turn ns k).take j).sum = pre2 ns (k + j) - pre2 ns k := by
  have e : (ns ++ ns).take (k + j) = (ns ++ ns).take k ++ ((ns ++ ns).drop k).take j := List.take_add
  have e2 : ((ns ++ ns).drop k).take j = (turn ns k).take j := by
    unfold turn
    rw [List.drop_append_of_le_length hk]
    rw [List.take_append, List.take_append, List.take_take]
    have e3 : min (j - (ns.drop k).length) k = j - (ns.drop k).length := by
      rw [List.length_drop]
      omega
    rw [e3]
  unfold pre2
  rw [e, List.sum_append, e2]
  omega
theorem good_pre2 {ns : List Int} {k : Nat} (hk : k < ns.length) : goodB (turn ns k) = decide (pre2 ns k < mn (pre2 ns) (k + 1) (ns.length - 1)) := by
  have e : goodB (turn ns k) = true ↔ pre2 ns k < mn (pre2 ns) (k + 1) (ns.length - 1) := by
    rw [goodB_iff, mn_lt, turn_len]
    constructor
    · intro h j hj
      have := h j (by omega)
      rw [turn_pre2 (by omega) (by omega)] at this
      have e : k + (j + 1) = k + 1 + j := by omega
      rw [e] at this
      omega
    · intro h j hj
      rw [turn_pre2 (by omega) (by omega)]
      have := h j (by omega)
      have e : k + (j + 1) = k + 1 + j := by omega
      rw [e]
      omega
  by_cases h : pre2 ns k < mn (pre2 ns) (k + 1) (ns.length - 1)
  · rw [decide_eq_true h]
    exact e.mpr h
  · rw [decide_eq_false h]
    cases g : goodB (turn ns k) with
    | false => rfl
    | true => exact absurd (e.mp g) h
/-- the step: behind a start the least of what follows is one more -/
theorem mn_step {ns : List Int} {k : Nat} (hk : k < ns.length) (hs : 0 < ns.sum) (h1 : ∀ x ∈ ns, x ≤ 1) :
    mn (pre2 ns) (k + 1) (ns.length - 1) = mn (pre2 ns) k (ns.length - 1) + (if goodB (turn ns k) = true then 1 else 0) := by
  have hn : 1 ≤ ns.length := by omega
  have e1 : ns.length = ns.length - 1 + 1 := by omega
  have c1 : mn (pre2 ns) k (ns.length - 1 + 1) = min (pre2 ns k) (mn (pre2 ns) (k + 1) (ns.length - 1)) := mn_cons _ _ _
  have c2 : mn (pre2 ns) k (ns.length - 1 + 1) = min (mn (pre2 ns) k (ns.length - 1)) (pre2 ns (k + (ns.length - 1 + 1))) := rfl
  have p1 := pre2_period (ns := ns) (i := k) (by omega)
  rw [← e1, p1] at c2
  rw [← e1] at c1
  have l1 := mn_le (pre2 ns) k (ns.length - 1)
  have l2 := mn_le (pre2 ns) (k + 1) (ns.length - 1)
  have hx : k < (ns ++ ns).length := by
    rw [List.length_append]
    omega
  have st := pre2_succ (ns := ns) (List.getElem?_eq_getElem hx)
  have hm : (ns ++ ns)[k] ≤ 1 := by
    have hmem := List.getElem_mem hx
    rcases List.mem_append.mp hmem with h | h <;> exact h1 _ h
  rw [good_pre2 hk]
  by_cases c : pre2 ns k < mn (pre2 ns) (k + 1) (ns.length - 1)
  · rw [if_pos (decide_eq_true c)]
    omega
  · rw [if_neg (by rw [decide_eq_false c]; decide)]
    omega
theorem count_starts {ns : List Int} (hs : 0 < ns.sum) (h1 : ∀ x ∈ ns, x ≤ 1) : ∀ i, i ≤ ns.length → (((List.range i).filter fun k => goodB (turn ns k)).length : Int) = mn (pre2 ns) i (ns.length - 1) - mn (pre2 ns) 0 (ns.length - 1)
  | 0, _ => by simp
  | i + 1, hi => by
    have ih := count_starts hs h1 i (by omega)
    have st := mn_step (ns := ns) (k := i) (by omega) hs h1
    rw [List.range_succ, List.filter_append, List.length_append, st]
    by_cases g : goodB (turn ns i) = true
    · simp [g]
      omega
    · simp [g]
      omega
theorem starts_many {ns : List Int} (h1 : ∀ x ∈ ns, x ≤ 1) : ((startsOf ns).length : Int) = max 0 ns.sum := by
  by_cases hs : 0 < ns.sum
  · have c := count_starts hs h1 ns.length (Nat.le_refl _)
    have e : mn (pre2 ns) (0 + ns.length) (ns.length - 1) = mn (pre2 ns) 0 (ns.length - 1) + ns.sum := mn_shift _ fun j hj => by
      have e2 : 0 + ns.length + j = j + ns.length := by omega
      have e3 : 0 + j = j := by omega
      rw [e2, e3]
      exact pre2_period (by omega)
    rw [Nat.zero_add] at e
    unfold startsOf
    rw [c, e]
    omega
  · have e : startsOf ns = [] := by
      unfold startsOf
      rw [List.filter_eq_nil_iff]
      intro k hk hg
      have hk' := List.mem_range.mp hk
      have g := goodB_iff.mp hg (ns.length - 1) (by rw [turn_len]; omega)
      have e2 : ns.length - 1 + 1 = ns.length := by omega
      rw [e2, turn_pre2 (by omega) (Nat.le_refl _), pre2_period (by omega)] at g
      omega
    rw [e]
    show (0 : Int) = _
    omega
/-! ### turned by k, and by j -/
theorem turn_at {ns : List Int} {k i : Nat} (hk : k ≤ ns.length) (hi : i < ns.length) : (turn ns k)[i]? = ns[if i + k < ns.length then i + k else i + k - ns.length]? := by
  unfold turn
  rw [List.getElem?_append, List.length_drop]
  by_cases h : i + k < ns.length
  · rw [if_pos h, if_pos (by omega), List.getElem?_drop, Nat.add_comm]
  · rw [if_neg h, if_neg (by omega), List.getElem?_take, if_pos (by omega)]
    congr 1
    omega
theorem turn_turn {ns : List Int} {k j : Nat} (hk : k < ns.length) (hj : j < ns.length) : turn (turn ns k) j = turn ns (if j + k < ns.length then j + k else j + k - ns.length) := by
  apply List.ext_getElem?
  intro i
  by_cases hi : i < ns.length
  · rw [turn_at (by rw [turn_len]; omega) (by rw [turn_len]; exact hi), turn_len, turn_at (by omega) (by split <;> omega), turn_at (by split <;> omega) hi]
    congr 1
    split <;> split <;> split <;> (try split) <;> omega
  · rw [List.getElem?_eq_none (by rw [turn_len, turn_len]; omega), List.getElem?_eq_none (by rw [turn_len]; omega)]
theorem mem_starts {ns : List Int} {k : Nat} : k ∈ startsOf ns ↔ k < ns.length ∧ goodB (turn ns k) = true := by
  unfold startsOf
  rw [List.mem_filter, List.mem_range]
theorem starts_pairwise (ns : List Int) : (startsOf ns).Pairwise (· < ·) := List.pairwise_lt_range.filter _
/-- the starts of the turned row -/
theorem starts_turn {ns : List Int} {k : Nat} (hk : k < ns.length) {ms : List Int} (hp : ms.Perm ((startsOf ns).map fun one : Nat => ((one : Int) - k) % ns.length)) (hs : ms.Pairwise (· ≤ ·)) : (startsOf (turn ns k)).map (fun one : Nat => (one : Int)) = ms := by
  have n1 : ((startsOf (turn ns k)).map (fun one : Nat => (one : Int))).Pairwise (· < ·) := by
    rw [List.pairwise_map]
    exact (starts_pairwise _).imp fun h => by omega
  have n2 : ((startsOf ns).map fun one : Nat => ((one : Int) - k) % ns.length).Nodup := by
    unfold List.Nodup
    rw [List.pairwise_map]
    have := starts_pairwise ns
    refine List.Pairwise.imp_of_mem ?_ this
    intro a b ha hb hab e
    have ha' := (mem_starts.mp ha).1
    have hb' := (mem_starts.mp hb).1
    have ea : ((a : Int) - k) % ns.length = if k ≤ a then (a : Int) - k else (a : Int) - k + ns.length := by
      split
      · exact Int.emod_eq_of_lt (by omega) (by omega)
      · rw [← Int.add_emod_right, Int.emod_eq_of_lt (by omega) (by omega)]
    have eb : ((b : Int) - k) % ns.length = if k ≤ b then (b : Int) - k else (b : Int) - k + ns.length := by
      split
      · exact Int.emod_eq_of_lt (by omega) (by omega)
      · rw [← Int.add_emod_right, Int.emod_eq_of_lt (by omega) (by omega)]
    rw [ea, eb] at e
    split at e <;> split at e <;> omega
  have pm : ((startsOf (turn ns k)).map (fun one : Nat => (one : Int))).Perm ms := by
    refine List.Perm.trans ?_ hp.symm
    rw [List.perm_ext_iff_of_nodup (n1.imp fun h => by omega) n2]
    intro z
    rw [List.mem_map, List.mem_map]
    constructor
    · rintro ⟨j, hj, rfl⟩
      obtain ⟨h1, h2⟩ := mem_starts.mp hj
      rw [turn_len] at h1
      rw [turn_turn hk h1] at h2
      refine ⟨if j + k < ns.length then j + k else j + k - ns.length, mem_starts.mpr ⟨by split <;> omega, h2⟩, ?_⟩
      split
      · rw [Int.emod_eq_of_lt (by omega) (by omega)]
        omega
      · rw [← Int.add_emod_right, Int.emod_eq_of_lt (by omega) (by omega)]
        omega
    · rintro ⟨a, ha, rfl⟩
      obtain ⟨h1, h2⟩ := mem_starts.mp ha
      refine ⟨if k ≤ a then a - k else a + ns.length - k, mem_starts.mpr ⟨by rw [turn_len]; split <;> omega, ?_⟩, ?_⟩
      · rw [turn_turn hk (by split <;> omega)]
        have e : (if (if k ≤ a then a - k else a + ns.length - k) + k < ns.length then (if k ≤ a then a - k else a + ns.length - k) + k else (if k ≤ a then a - k else a + ns.length - k) + k - ns.length) = a := by
          split <;> split <;> omega
        rw [e]
        exact h2
      · split
        · rw [Int.emod_eq_of_lt (by omega) (by omega)]
          omega
        · rw [← Int.add_emod_right, Int.emod_eq_of_lt (by omega) (by omega)]
          omega
  exact pm.eq_of_pairwise (le := (· ≤ ·)) (fun a b _ _ h1 h2 => by omega) (n1.imp fun h => by omega) hs
end Tr
/-! Which turns of a list are words. -/
namespace Tr
def wordsAt (ms : List Int) : List Nat := (List.range ms.length).filter fun k => isWB (turn ms k)
theorem rowOf_len (ms : List Int) : (rowOf ms).length = ms.length := by simp [rowOf]
theorem rowOf_turn {ms : List Int} {k : Nat} (hk : k ≤ ms.length) : rowOf (turn ms k) = turn (rowOf ms) (ms.length - k) := by
  unfold rowOf turn
  rw [List.reverse_append, List.map_append, ← List.map_drop, ← List.map_take, List.drop_reverse, List.take_reverse]
  have e : ms.length - (ms.length - k) = k := by omega
  rw [e]
theorem turn_full (r : List Int) : turn r r.length = turn r 0 := by simp [turn]
theorem isWB_turn {ms : List Int} {k : Nat} (hn : ∀ n ∈ ms, 0 ≤ n) (hk : k < ms.length) : isWB (turn ms k) = goodB (turn (rowOf ms) (if k = 0 then 0 else ms.length - k)) := by
  have h1 : (turn ms k).all (fun n => decide (0 ≤ n)) = true := List.all_eq_true.mpr fun n h => decide_eq_true (hn n (turn_mem h))
  unfold isWB
  rw [h1, turn_len, decide_eq_true (show 0 < ms.length by omega), rowOf_turn (by omega)]
  split
  · rename_i h
    subst h
    have := turn_full (rowOf ms)
    rw [rowOf_len] at this
    rw [Nat.sub_zero, this]
    rfl
  · rfl
theorem mem_words {ms : List Int} {k : Nat} : k ∈ wordsAt ms ↔ k < ms.length ∧ isWB (turn ms k) = true := by
  unfold wordsAt
  rw [List.mem_filter, List.mem_range]
theorem words_pairwise (ms : List Int) : (wordsAt ms).Pairwise (· < ·) := List.pairwise_lt_range.filter _
theorem words_perm {ms : List Int} (hn : ∀ n ∈ ms, 0 ≤ n) : ((wordsAt ms).map fun k : Nat => (k : Int)).Perm ((startsOf (rowOf ms)).map fun k : Nat => ((ms.length : Int) - k) % ms.length) := by
  have n1 : ((wordsAt ms).map (fun one : Nat => (one : Int))).Pairwise (· < ·) := by
    rw [List.pairwise_map]
    exact (words_pairwise _).imp fun h => by omega
  have md : ∀ k : Nat, k < ms.length → ((ms.length : Int) - k) % ms.length = ((if k = 0 then 0 else ms.length - k : Nat) : Int) := fun k hk => by
    split
    · rename_i h
      subst h
      simp
    · rw [Int.emod_eq_of_lt (by omega) (by omega)]
      omega
  have n2 : ((startsOf (rowOf ms)).map fun k : Nat => ((ms.length : Int) - k) % ms.length).Nodup := by
    unfold List.Nodup
    rw [List.pairwise_map]
    refine List.Pairwise.imp_of_mem ?_ (starts_pairwise (rowOf ms))
    intro a b ha hb hab e
    have ha' := (mem_starts.mp ha).1
    have hb' := (mem_starts.mp hb).1
    rw [rowOf_len] at ha' hb'
    rw [md a ha', md b hb'] at e
    split at e <;> split at e <;> omega
  rw [List.perm_ext_iff_of_nodup (n1.imp fun h => by omega) n2]
  intro z
  rw [List.mem_map, List.mem_map]
  constructor
  · rintro ⟨k, hk, rfl⟩
    obtain ⟨h1, h2⟩ := mem_words.mp hk
    rw [isWB_turn hn h1] at h2
    refine ⟨_, mem_starts.mpr ⟨by rw [rowOf_len]; split <;> omega, h2⟩, ?_⟩
    rw [md _ (by split <;> omega)]
    by_cases h0 : k = 0
    · subst h0
      rfl
    · rw [if_neg h0, if_neg (by omega)]
      omega
  · rintro ⟨k, hk, rfl⟩
    obtain ⟨h1, h2⟩ := mem_starts.mp hk
    rw [rowOf_len] at h1
    refine ⟨if k = 0 then 0 else ms.length - k, mem_words.mpr ⟨by split <;> omega, ?_⟩, (md k h1).symm⟩
    rw [isWB_turn hn (by split <;> omega)]
    have e : (if (if k = 0 then 0 else ms.length - k) = 0 then 0 else ms.length - (if k = 0 then 0 else ms.length - k)) = k := by
      by_cases h0 : k = 0
      · rw [if_pos h0, if_pos rfl, h0]
      · rw [if_neg h0, if_neg (by omega)]
        omega
    rw [e]
    exact h2
theorem map_sum_one (ms : List Int) : (ms.map fun n => 1 - n).sum = ms.length - ms.sum := by
  induction ms with
  | nil => rfl
  | cons n ms ih =>
    rw [List.map_cons, List.sum_cons, ih, List.sum_cons, List.length_cons]
    omega
theorem words_many {ms : List Int} (hn : ∀ n ∈ ms, 0 ≤ n) : ((wordsAt ms).length : Int) = max 0 ((ms.length : Int) - ms.sum) := by
  have h := (words_perm hn).length_eq
  rw [List.length_map, List.length_map] at h
  rw [h, starts_many (fun x hx => ?_), rowOf_sum, map_sum_one]
  unfold rowOf at hx
  obtain ⟨n, h1, rfl⟩ := List.mem_map.mp hx
  have := hn n (List.mem_reverse.mp h1)
  omega
theorem words_sorted {ms : List Int} (hn : ∀ n ∈ ms, 0 ≤ n) {ks : List Int} (hp : ks.Perm ((startsOf (rowOf ms)).map fun k : Nat => ((ms.length : Int) - k) % ms.length)) (hs : ks.Pairwise (· ≤ ·)) : ks = (wordsAt ms).map fun k : Nat => (k : Int) := by
  have n1 : ((wordsAt ms).map (fun one : Nat => (one : Int))).Pairwise (· < ·) := by
    rw [List.pairwise_map]
    exact (words_pairwise _).imp fun h => by omega
  exact (hp.trans (words_perm hn).symm).eq_of_pairwise (le := (· ≤ ·)) (fun a b _ _ h1 h2 => by omega) hs (n1.imp fun h => by omega)
theorem turn_sum {ms : List Int} {k : Nat} : (turn ms k).sum = ms.sum := by
  unfold turn
  rw [List.sum_append, Int.add_comm, ← List.sum_append, List.take_append_drop]
end Tr
/-! A word read from the left, by how many trees are pending. -/
namespace Tr
def pendR : List Int → Int
  | [] => 0
  | n :: l => max (pendR l - 1) 0 + n
theorem pendR_le : ∀ (l : List Int) (c : Int), 0 ≤ c → (pendR l ≤ c ↔ ∀ k, k < l.length → 1 - c ≤ ((l.map fun n => 1 - n).take (k + 1)).sum)
  | [], c, h => ⟨fun _ k hk => absurd hk (Nat.not_lt_zero _), fun _ => h⟩
  | n :: l, c, h => by
    have key : pendR (n :: l) ≤ c ↔ n ≤ c ∧ pendR l ≤ c - n + 1 := by
      simp only [pendR]
      omega
    rw [key]
    constructor
    · rintro ⟨h1, h2⟩ k hk
      cases k with
      | zero =>
        simp only [List.map_cons, List.take_succ_cons, List.take_zero, List.sum_cons, List.sum_nil]
        omega
      | succ k =>
        have h3 := (pendR_le l (c - n + 1) (by omega)).mp h2 k (by simpa using hk)
        simp only [List.map_cons, List.take_succ_cons, List.sum_cons] at h3 ⊢
        omega
    · intro h1
      have h2 := h1 0 (by simp)
      simp only [List.map_cons, List.take_succ_cons, List.take_zero, List.sum_cons, List.sum_nil] at h2
      refine ⟨by omega, (pendR_le l (c - n + 1) (by omega)).mpr fun k hk => ?_⟩
      have h3 := h1 (k + 1) (by simpa using hk)
      simp only [List.map_cons, List.take_succ_cons, List.sum_cons] at h3 ⊢
      omega
theorem pendR_nn : ∀ {l : List Int}, (∀ n ∈ l, 0 ≤ n) → 0 ≤ pendR l
  | [], _ => Int.le_refl 0
  | n :: l, h => by
    have := h n (List.mem_cons_self ..)
    simp only [pendR]
    omega
theorem isWB_pend {w : List Int} (h : ∀ n ∈ w, 0 ≤ n) : isWB w = (decide (0 < w.length) && decide (pendR w.reverse = 0)) := by
  have hall : w.all (fun n => decide (0 ≤ n)) = true := List.all_eq_true.mpr fun n hn => decide_eq_true (h n hn)
  have h0 := pendR_nn (l := w.reverse) fun n hn => h n (List.mem_reverse.mp hn)
  have h1 := pendR_le w.reverse 0 (Int.le_refl 0)
  have e : goodB (rowOf w) = decide (pendR w.reverse = 0) := by
    rw [Bool.eq_iff_iff, goodB_iff, decide_eq_true_iff]
    unfold rowOf
    rw [List.length_map]
    constructor
    · intro h2
      have := h1.mpr fun k hk => by
        have := h2 k hk
        omega
      omega
    · intro h2 k hk
      have := h1.mp (by omega) k hk
      omega
  unfold isWB
  rw [hall, e]
  rfl
end Tr
namespace Tr
open PySem PySem.Spec PyProof.Rows L2
/-! the text of the row, by places -/
def topS (i : Nat) : Stmt := PySem.Challenge.pw_turnrow_k07_whole_turns_that_are_words.main.body.getD i (.Pass ⟨0, 0, 0, 0⟩)
abbrev s_see_row : Stmt := topS 6
abbrev n_see_row : List Str := ["row", "number"]
theorem sc_see_row : FnScope n_see_row ["row"] (defScope s_see_row) := ⟨rfl, rfl, rfl, by decide +kernel, rfl, by decide +kernel, by decide +kernel⟩
abbrev s_sums_of : Stmt := topS 7
abbrev n_sums_of : List Str := ["row", "found", "total", "number"]
theorem sc_sums_of : FnScope n_sums_of ["row"] (defScope s_sums_of) := ⟨rfl, rfl, rfl, by decide +kernel, rfl, by decide +kernel, by decide +kernel⟩
abbrev s_is_good : Stmt := topS 8
abbrev n_is_good : List Str := ["row", "total"]
theorem sc_is_good : FnScope n_is_good ["row"] (defScope s_is_good) := ⟨rfl, rfl, rfl, by decide +kernel, rfl, by decide +kernel, by decide +kernel⟩
abbrev s_starts : Stmt := topS 9
abbrev n_starts : List Str := ["row", "k"]
theorem sc_starts : FnScope n_starts ["row"] (defScope s_starts) := ⟨rfl, rfl, rfl, by decide +kernel, rfl, by decide +kernel, by decide +kernel⟩
abbrev s_is_word : Stmt := topS 11
abbrev n_is_word : List Str := ["numbers", "number"]
theorem sc_is_word : FnScope n_is_word ["numbers"] (defScope s_is_word) := ⟨rfl, rfl, rfl, by decide +kernel, rfl, by decide +kernel, by decide +kernel⟩
abbrev s_see_word : Stmt := topS 12
abbrev n_see_word : List Str := ["word"]
theorem sc_see_word : FnScope n_see_word ["word"] (defScope s_see_word) := ⟨rfl, rfl, rfl, by decide +kernel, rfl, by decide +kernel, by decide +kernel⟩
abbrev s_grove_of : Stmt := topS 13
abbrev n_grove_of : List Str := ["word", "trees", "number", "boughs", "k"]
theorem sc_grove_of : FnScope n_grove_of ["word"] (defScope s_grove_of) := ⟨rfl, rfl, rfl, by decide +kernel, rfl, by decide +kernel, by decide +kernel⟩
abbrev s_words_among : Stmt := topS 14
abbrev n_words_among : List Str := ["numbers", "k"]
theorem sc_words_among : FnScope n_words_among ["numbers"] (defScope s_words_among) := ⟨rfl, rfl, rfl, by decide +kernel, rfl, by decide +kernel, by decide +kernel⟩
abbrev s_law_cell_at : Stmt := topS 16
abbrev n_law_cell_at : List Str := ["script", "k"]
theorem sc_law_cell_at : FnScope n_law_cell_at ["script", "k"] (defScope s_law_cell_at) := ⟨rfl, rfl, rfl, by decide +kernel, rfl, by decide +kernel, by decide +kernel⟩
abbrev s_law_whole : Stmt := topS 17
abbrev n_law_whole : List Str := ["found"]
theorem sc_law_whole : FnScope n_law_whole ["found"] (defScope s_law_whole) := ⟨rfl, rfl, rfl, by decide +kernel, rfl, by decide +kernel, by decide +kernel⟩
abbrev s_law_row_by : Stmt := topS 18
abbrev n_law_row_by : List Str := ["script", "first", "count", "way", "found", "k", "cell"]
theorem sc_law_row_by : FnScope n_law_row_by ["script", "first", "count", "way"] (defScope s_law_row_by) := ⟨rfl, rfl, rfl, by decide +kernel, rfl, by decide +kernel, by decide +kernel⟩
abbrev s_law_nodes : Stmt := topS 19
abbrev n_law_nodes : List Str := ["script", "head"]
theorem sc_law_nodes : FnScope n_law_nodes ["script"] (defScope s_law_nodes) := ⟨rfl, rfl, rfl, by decide +kernel, rfl, by decide +kernel, by decide +kernel⟩
abbrev s_law_is_word : Stmt := topS 20
abbrev n_law_is_word : List Str := ["numbers", "pending", "number"]
theorem sc_law_is_word : FnScope n_law_is_word ["numbers"] (defScope s_law_is_word) := ⟨rfl, rfl, rfl, by decide +kernel, rfl, by decide +kernel, by decide +kernel⟩
abbrev s_law : Stmt := topS 21
abbrev n_law : List Str := ["script", "row", "numbers", "handed", "found", "many", "last", "k", "word", "told", "number"]
theorem sc_law : FnScope n_law ["script"] (defScope s_law) := ⟨rfl, rfl, rfl, by decide +kernel, rfl, by decide +kernel, by decide +kernel⟩
structure Txt (K : PySem.W.Frag) (mg : Str → Option Value) : Prop where
  f_see_row : Txt1 K mg "see_row" s_see_row ["row"]
  f_sums_of : Txt1 K mg "sums_of" s_sums_of ["row"]
  f_is_good : Txt1 K mg "is_good" s_is_good ["row"]
  f_starts : Txt1 K mg "starts" s_starts ["row"]
  f_is_word : Txt1 K mg "is_word" s_is_word ["numbers"]
  f_see_word : Txt1 K mg "see_word" s_see_word ["word"]
  f_grove_of : Txt1 K mg "grove_of" s_grove_of ["word"]
  f_words_among : Txt1 K mg "words_among" s_words_among ["numbers"]
  f_law_cell_at : Txt1 K mg "_law_cell_at" s_law_cell_at ["script", "k"]
  f_law_whole : Txt1 K mg "_law_whole" s_law_whole ["found"]
  f_law_row_by : Txt1 K mg "_law_row_by" s_law_row_by ["script", "first", "count", "way"]
  f_law_nodes : Txt1 K mg "_law_nodes" s_law_nodes ["script"]
  f_law_is_word : Txt1 K mg "_law_is_word" s_law_is_word ["numbers"]
  f_law : Txt1 K mg "law" s_law ["script"]
  m_bool : mg "bool" = none
  m_int : mg "int" = none
  m_isinstance : mg "isinstance" = none
  m_len : mg "len" = none
  m_list : mg "list" = none
  m_max : mg "max" = none
  m_min : mg "min" = none
  m_range : mg "range" = none
  m_reversed : mg "reversed" = none
  m_sorted : mg "sorted" = none
  m_sum : mg "sum" = none
  m_tuple : mg "tuple" = none
  c_MOST : ∃ t, mg "MOST" = some (.int 60 t)
  e_TurnError : ExcT K mg "TurnError"
  e_BadRow : ExcT K mg "BadRow"
  e_NoWord : ExcT K mg "NoWord"
end Tr
local macro_rules | `(tactic| walk_at "sq") => `(tactic| first
  | assumption
  | (refine Tr.Led.sq (H0 := ?hH) (l := ?hl) ?L 0 ?h; (case L => assumption); (case h => rfl))
  | (refine Tr.Led.sq (H0 := ?hH) (l := ?hl) ?L 1 ?h; (case L => assumption); (case h => rfl))
  | (refine Tr.Led.sq (H0 := ?hH) (l := ?hl) ?L 2 ?h; (case L => assumption); (case h => rfl))
  | (refine Tr.Led.sq (H0 := ?hH) (l := ?hl) ?L 3 ?h; (case L => assumption); (case h => rfl))
  | (refine Tr.Led.sq (H0 := ?hH) (l := ?hl) ?L 4 ?h; (case L => assumption); (case h => rfl))
  | (refine Tr.Led.sq (H0 := ?hH) (l := ?hl) ?L 5 ?h; (case L => assumption); (case h => rfl))
  | (refine Tr.Led.sq (H0 := ?hH) (l := ?hl) ?L 6 ?h; (case L => assumption); (case h => rfl))
  | (refine Tr.Led.sq (H0 := ?hH) (l := ?hl) ?L 7 ?h; (case L => assumption); (case h => rfl))
  | (refine Tr.Led.seq (H0 := ?hH) (l := ?hl) ?L ?h; (case L => assumption); (case h => assumption)))
local macro_rules | `(tactic| walk_at "s1") => `(tactic| first
  | with_reducible refine Tr.rd_seq ?_
  | with_reducible refine Tr.rd_asg ?_
  | with_reducible refine Tr.rd_name ?_
  | with_reducible refine Tr.rd_c ?_
  | ((with_reducible refine Tr.rd_var (v := ?hvv) ?hvr ?_); (case hvr => exact rfl))
  | with_reducible refine Tr.rd_op ?_
  | with_reducible refine Tr.rd_cons ?_
  | with_reducible refine Tr.rd_nil ?_
  | with_reducible refine Tr.rd_addI ?_
  | with_reducible refine Tr.rd_sub ?_
  | with_reducible refine Tr.rd_neg ?_
  | with_reducible refine Tr.rd_drop ?_
  | with_reducible refine Tr.rd_ret ?_
  | with_reducible refine Tr.rd_ifS ?_
  | with_reducible refine Tr.rd_test ?_
  | with_reducible refine Tr.rd_testB ?_
  | with_reducible refine Tr.rd_isB ?_
  | with_reducible refine Tr.rd_isI ?_
  | with_reducible refine Tr.rd_and ?_
  | with_reducible refine Tr.rd_or ?_
  | with_reducible refine Tr.rd_not ?_
  | with_reducible refine Tr.rd_andV ?_
  | with_reducible refine Tr.rd_orV ?_
  | with_reducible refine Tr.rd_notV ?_
  | with_reducible refine Tr.rd_un ?_
  | with_reducible refine Tr.rd_call ?_
  | with_reducible refine Tr.rd_callG ?_
  | with_reducible refine Tr.rd_CB ?_
  | with_reducible refine Tr.rd_BM ?_
  | with_reducible refine Tr.rd_BM0 ?_
  | ((with_reducible refine Tr.rd_ty (xs := ?hxs) ?hsq ?_); (case hsq => walk_at "sq"))
  | with_reducible refine Tr.rd_sl ?_
  | with_reducible refine Tr.rd_noP ?_
  | with_reducible refine Tr.rd_part ?_
  | with_reducible refine Tr.rd_lst ?_
  | with_reducible refine Tr.rd_tup ?_
  | with_reducible refine Tr.rd_lt ?_
  | with_reducible refine Tr.rd_le ?_
  | with_reducible refine Tr.rd_gt ?_
  | with_reducible refine Tr.rd_ge ?_
  | with_reducible refine Tr.rd_eqI ?_
  | with_reducible refine Tr.rd_neI ?_
  | with_reducible refine Tr.rd_eqS ?_
  | with_reducible refine Tr.rd_neS ?_
  | with_reducible refine Tr.rd_eqB ?_
  | with_reducible refine Tr.rd_neB ?_
  | with_reducible refine Tr.rd_isN ?_
  | with_reducible refine Tr.rd_rz ?_
  | with_reducible refine Tr.rd_retN ?_
  | with_reducible refine Tr.rd_next ?_
  | with_reducible refine Tr.rd_brk ?_
  | with_reducible refine Tr.rd_yes ?_
  | with_reducible refine L2.iteT ?_
  | with_reducible refine L2.iteF ?_
  | with_reducible refine Tr.iteNT ?_
  | with_reducible refine Tr.iteNF ?_
  | with_reducible refine Tr.rd_for ?_
  | with_reducible refine Tr.rd_lc ?_
  | with_reducible refine Tr.rd_iList ?_
  | with_reducible refine Tr.rd_iTup ?_
  | with_reducible refine Tr.rd_iStr ?_
  | with_reducible refine Tr.rd_iRng1 ?_
  | with_reducible refine Tr.rd_iRng2 ?_
  | with_reducible refine Tr.rd_iRng3 ?_
  | with_reducible refine Tr.rd_iRev ?_
  | with_reducible refine Tr.rd_itS ?_
  | ((with_reducible refine Tr.rd_itL (xs := ?hxs) ?hsq ?_); (case hsq => walk_at "sq"))
  | ((with_reducible refine Tr.rd_itV (xs := ?hxs) ?hsq ?_); (case hsq => walk_at "sq"))
  | ((with_reducible refine Tr.rd_mod ?hlt ?_); (case hlt => first | decide | assumption | omega))
  | ((with_reducible refine Tr.rd_divK ?hlt ?hl2 ?_); (case hlt => first | decide | assumption | omega); (case hl2 => first | decide | assumption | omega))
  | ((with_reducible refine Tr.rd_lenL (xs := ?hxs) ?hsq ?_); (case hsq => walk_at "sq"))
  | with_reducible refine Tr.rd_intB ?_
  | with_reducible refine Tr.rd_revL ?_
  | with_reducible refine Tr.rd_listRev ?_
  | with_reducible refine Tr.rd_gSub ?_
  | with_reducible refine Tr.rd_gMax2 ?_
  | with_reducible refine Tr.rd_gMin2 ?_)
local macro_rules | `(tactic| walk_at "s") => `(tactic| (repeat walk_at "s1"))
namespace Tr
open PySem PySem.Spec PyProof.Rows L2
def sp_law_cell_at (K : PySem.W.Frag) : Sp := fun vs H Q _ => ∃ a ns, ∃ k : Nat, vs = [.ref a, .int k] ∧ SqL K H a (ns.map V.int) ∧ Q (.int (cell ns k)) H
theorem cell_in {ns : List Int} {k : Nat} (h : k < ns.length) : (ns.map V.int)[k]? = some (.int (cell ns k)) := by
  unfold cell
  rw [List.getElem?_map, List.getD_eq_getElem?_getD, List.getElem?_eq_getElem h]
  rfl
theorem cell_out {ns : List Int} {k : Nat} (h : ns.length ≤ k) : cell ns k = 0 := by
  unfold cell
  rw [List.getD_eq_getElem?_getD, List.getElem?_eq_none h]
  rfl
theorem ok_law_cell_at {P : Program} {w : World} {K : PySem.W.Frag} {mg : Str → Option Value} {base : Heap} (T : Txt K mg) : Fn P w K mg base (L2.CX P w) 1 "_law_cell_at" ["script", "k"] (sp_law_cell_at K) := by
  refine fnOf1 T.f_law_cell_at sc_law_cell_at (fun vs H Q E h => ?_) (fun f cdv A outer s H vs Q E hr h => ⟨_, (pss_cons (ps_if (pt_cmpR op_gLt (pv 1) (pe_callB (kLen K) (by rfl) T.m_len (by decide +kernel) (pa_cons (pv 0) pa_nil)) (nomark _)) (pss_one (ps_ret (pe_ix (kIx K) (pv 0) (pv 1) (fun _ _ => rfl)))) pss_nil)
      (pss_one (ps_ret pe_int))), ?_⟩)
  · obtain ⟨a, ns, k, rfl, _⟩ := h
    rfl
  obtain ⟨a, ns, k, rfl, hS, hq⟩ := h
  try dsimp only [L2.cxOf]
  walk_at "s"
  rw [List.length_map]
  refine ited (fun c => ?_) (fun c => ?_)
  · walk_at "s"
    exact rd_ixL hS (atI_nat (cell_in (by omega))) hq
  · walk_at "s"
    rw [cell_out (by omega)] at hq
    exact hq
end Tr
namespace Tr
open PySem PySem.Spec PyProof.Rows L2
def sp_law_row_by (K : PySem.W.Frag) : Sp := fun vs H Q _ => ∃ a ns, ∃ first count : Nat, ∃ way : Int, vs = [.ref a, .int first, .int count, .int way] ∧ SqL K H a (ns.map V.int) ∧ count ≤ 60 ∧ newL H Q ((rowBy ns first count way).map V.int)
theorem ok_law_row_by {P : Program} {w : World} {K : PySem.W.Frag} {mg : Str → Option Value} {base : Heap} (T : Txt K mg) : Fn P w K mg base (L2.CX P w) 2 "_law_row_by" ["script", "first", "count", "way"] (sp_law_row_by K) := by
  refine fnOf1 T.f_law_row_by sc_law_row_by (fun vs H Q E h => ?_) (fun f cdv A outer s H vs Q E hr h => ⟨_, (pss_cons (ps_set (i := 4) sc_law_row_by.nd rfl (Or.inl rfl) (pe_lst pa_nil))
      (pss_cons (ps_for (passes_of rfl) rfl (pi_range1 rfl T.m_range (pa_cons (pv 2) pa_nil)) (pg_name (i := 5) sc_law_row_by.nd rfl (Or.inl rfl)) (pss_cons (ps_set (i := 6) sc_law_row_by.nd rfl (Or.inl rfl) (pe_callF (ok_law_cell_at T) (hr.mono (by decide)) rfl passL (pa_cons (pv 0) (pa_cons (pe_op op_gAdd (pv 1) (pv 5)) pa_nil))))
      (pss_one (ps_if (pt_cmpR (kEq K hr.units) (pv 3) pe_int (nomark _)) (pss_one (ps_expr (kbm K PySem.F.plainAttrs_list PySem.F.slot_list_append PySem.F.type_list_append mt_append (pv 4) (pa_cons (pe_op op_gSub pe_int (pe_op op_gMod (pv 6) pe_int)) pa_nil)))) (pss_one (ps_if (pt_cmpR (kEq K hr.units) (pv 3) pe_int (nomark _)) (pss_one (ps_expr (kbm K PySem.F.plainAttrs_list PySem.F.slot_list_append PySem.F.type_list_append mt_append (pv 4) (pa_cons (pe_ix (kIx K) (pe_lst (pa_cons pe_int (pa_cons pe_int (pa_cons pe_int (pa_cons pe_int (pa_cons (pe_un op_gNeg pe_int) (pa_cons (pe_un op_gNeg pe_int) pa_nil))))))) (pe_op op_gMod (pv 6) pe_int) (fun _ _ => rfl)) pa_nil)))) (pss_one (ps_if (pt_cmpR (kEq K hr.units) (pv 3) pe_int (nomark _)) (pss_one (ps_expr (kbm K PySem.F.plainAttrs_list PySem.F.slot_list_append PySem.F.type_list_append mt_append (pv 4) (pa_cons (pe_ix (kIx K) (pe_lst (pa_cons pe_int (pa_cons pe_int (pa_cons pe_int (pa_cons pe_int (pa_cons pe_int (pa_cons (pe_op op_gSub pe_int (pe_op op_gMod (pe_op op_gDiv (pv 6) pe_int) pe_int)) (pa_cons pe_int (pa_cons pe_int pa_nil))))))))) (pe_op op_gMod (pv 6) pe_int) (fun _ _ => rfl)) pa_nil)))) (pss_one (ps_expr (kbm K PySem.F.plainAttrs_list PySem.F.slot_list_append PySem.F.type_list_append mt_append (pv 4) (pa_cons (pe_op op_gSub pe_int (pe_op op_gMod (pv 6) pe_int)) pa_nil))))))))))))
      (pss_one (ps_ret (pv 4))))), ?_⟩)
  · obtain ⟨a, ns, first, count, way, rfl, _⟩ := h
    rfl
  obtain ⟨a, ns, first, count, way, rfl, hS, hc, hq⟩ := h
  try dsimp only [L2.cxOf]
  walk_at "s"
  refine rd_mkL (Led.start H) (sz (Nat.zero_le 0)) fun p H1 L1 _ => ?_
  walk_at "s"
  refine rd_itR1 count (Int.toNat_natCast _) (by omega) (by omega) ?_
  refine lp_rng0 (fun i σ H' => ∃ y z, σ = [some (.ref a), some (.int first), some (.int count), some (.int way), some (.ref p), y, z] ∧ Led H H' [(p, .lst ((rowBy ns first i way).map V.int))]) ⟨none, none, rfl, L1⟩ ?_ ?_
  · rintro i σ H' hi ⟨y, z, rfl, L⟩
    have hz : ((rowBy ns first i way).map V.int).length < sizeLine := by
      rw [List.length_map, rowBy_len]
      exact szl (m := 1000) (by omega)
    have fin : ∀ (c : Int) (H2 : Hp) (σ2 : L2.St), rowCell way (cell ns (first + i)) = c → Led H H2 [(p, .lst ((rowBy ns first i way).map V.int ++ [.int c]))] → (∃ y z, σ2 = [some (.ref a), some (.int first), some (.int count), some (.int way), some (.ref p), y, z]) →
        ∃ y z, σ2 = [some (.ref a), some (.int first), some (.int count), some (.int way), some (.ref p), y, z] ∧ Led H H2 [(p, .lst ((rowBy ns first (i + 1) way).map V.int))] := by
      rintro c H2 σ2 e L2 ⟨y, z, rfl⟩
      refine ⟨y, z, rfl, L2.to ?_⟩
      unfold rowBy
      rw [List.range_succ, List.map_append, List.map_append, ← e]
      rfl
    walk_at "s"
    refine ⟨a, ns, first + i, rfl, L.seq hS, ?_⟩
    walk_at "s"
    refine ited (fun w0 => ?_) (fun w0 => ?_)
    · walk_at "s"
      refine rd_append L 0 rfl hz fun H2 L2 _ => fin _ H2 _ ?_ L2 ⟨_, _, rfl⟩
      unfold rowCell
      rw [if_pos w0]
    walk_at "s"
    refine ited (fun w1 => ?_) (fun w1 => ?_)
    · walk_at "s"
      refine rd_mkL L (sz (m := 6) (by decide)) fun p2 H2 L2 _ => ?_
      walk_at "s"
      refine rd_ixL (L2.sq 0) (at_int (ls := [1, 1, 1, 0, -1, -2]) (by omega) (by show _ < (6 : Int); omega)) ?_
      walk_at "s"
      refine rd_append L2 1 rfl hz fun H3 L3 _ => fin _ H3 _ ?_ L3.tail ⟨_, _, rfl⟩
      unfold rowCell
      rw [if_neg w0, if_pos w1]
    walk_at "s"
    refine ited (fun w2 => ?_) (fun w2 => ?_)
    · walk_at "s"
      refine rd_mkL L (sz (Nat.le_refl 8)) fun p2 H2 L2 _ => ?_
      walk_at "s"
      refine rd_ixL (L2.sq 0) (at_int (ls := [1, 1, 1, 1, 1, 1 - cell ns (first + i) / 8 % 62, 0, 1]) (by omega) (by show _ < (8 : Int); omega)) ?_
      walk_at "s"
      refine rd_append L2 1 rfl hz fun H3 L3 _ => fin _ H3 _ ?_ L3.tail ⟨_, _, rfl⟩
      unfold rowCell
      rw [if_neg w0, if_neg w1, if_pos w2]
    walk_at "s"
    refine rd_append L 0 rfl hz fun H2 L2 _ => fin _ H2 _ ?_ L2 ⟨_, _, rfl⟩
    unfold rowCell
    rw [if_neg w0, if_neg w1, if_neg w2]
  · rintro σ H' ⟨y, z, rfl, L⟩
    walk_at "s"
    exact hq p H' L
end Tr
namespace Tr
open PySem PySem.Spec PyProof.Rows L2
def sp_sums_of (K : PySem.W.Frag) : Sp := fun vs H Q _ => ∃ a ns, vs = [.ref a] ∧ SqL K H a (ns.map V.int) ∧ ns.length ≤ 1000 ∧ newL H Q ((sums ns).map V.int)
theorem ok_sums_of {P : Program} {w : World} {K : PySem.W.Frag} {mg : Str → Option Value} {base : Heap} (T : Txt K mg) : Fn P w K mg base (L2.CX P w) 1 "sums_of" ["row"] (sp_sums_of K) := by
  refine fnOf1 T.f_sums_of sc_sums_of (fun vs H Q E h => ?_) (fun f cdv A outer s H vs Q E hr h => ⟨_, (pss_cons (ps_set (i := 1) sc_sums_of.nd rfl (Or.inl rfl) (pe_lst pa_nil))
      (pss_cons (ps_set (i := 2) sc_sums_of.nd rfl (Or.inl rfl) pe_int)
      (pss_cons (ps_for (passes_of rfl) rfl (kiList K (pv 0)) (pg_name (i := 3) sc_sums_of.nd rfl (Or.inl rfl)) (pss_cons (ps_set (i := 2) sc_sums_of.nd rfl (Or.inl rfl) (pe_op op_gAdd (pv 2) (pv 3)))
      (pss_one (ps_expr (kbm K PySem.F.plainAttrs_list PySem.F.slot_list_append PySem.F.type_list_append mt_append (pv 1) (pa_cons (pv 2) pa_nil))))))
      (pss_one (ps_ret (pv 1)))))), ?_⟩)
  · obtain ⟨a, ns, rfl, _⟩ := h
    rfl
  obtain ⟨a, ns, rfl, hS, hl, hq⟩ := h
  try dsimp only [L2.cxOf]
  walk_at "s"
  refine rd_mkL (Led.start H) (sz (Nat.zero_le 0)) fun p H1 L1 _ => ?_
  walk_at "s"
  refine lp_ints (ns := ns) (fun i σ H' => ∃ y, σ = [some (.ref a), some (.ref p), some (.int (ns.take i).sum), y] ∧ Led H H' [(p, .lst (((List.range i).map fun k => (ns.take (k + 1)).sum).map V.int))]) ⟨none, rfl, L1⟩ (fun i σ H' _ ⟨_, _, L⟩ => L.seq hS) ?_ ?_
  · rintro i n σ H' hi ⟨y, rfl, L⟩
    have hlt := (List.getElem?_eq_some_iff.mp hi).1
    walk_at "s"
    refine rd_append L 0 rfl (by rw [List.length_map, List.length_map, List.length_range]; exact szl (m := 1000) (by omega)) fun H2 L2 _ => ?_
    rw [← take_sum hi] at L2 ⊢
    refine ⟨some (.int n), rfl, L2.to ?_⟩
    rw [List.range_succ, List.map_append, List.map_append]
    rfl
  · rintro σ H' ⟨y, rfl, L⟩
    walk_at "s"
    exact hq p H' L
end Tr
namespace Tr
open PySem PySem.Spec PyProof.Rows L2
def sp_is_good (K : PySem.W.Frag) : Sp := fun vs H Q _ => ∃ (a : Addr) (ns : List Int), vs = [.ref a] ∧ SqL K H a (ns.map V.int) ∧ ns.length ≤ 1000 ∧ newV H Q (.bl (goodB ns))
theorem ok_is_good {P : Program} {w : World} {K : PySem.W.Frag} {mg : Str → Option Value} {base : Heap} (T : Txt K mg) : Fn P w K mg base (L2.CX P w) 2 "is_good" ["row"] (sp_is_good K) := by
  refine fnOf1 T.f_is_good sc_is_good (fun vs H Q E h => ?_) (fun f cdv A outer s H vs Q E hr h => ⟨_, (pss_cons (ps_for (passes_of rfl) rfl (kiList K (pe_callF (ok_sums_of T) (hr.mono (by decide)) rfl passL (pa_cons (pv 0) pa_nil))) (pg_name (i := 1) sc_is_good.nd rfl (Or.inl rfl)) (pss_one (ps_if (pt_cmpR op_gLt (pv 1) pe_int (nomark _)) (pss_one (ps_ret pe_bl)) pss_nil)))
      (pss_one (ps_ret pe_bl))), ?_⟩)
  · obtain ⟨a, ns, rfl, _⟩ := h
    rfl
  obtain ⟨a, ns, rfl, hS, hl, hq⟩ := h
  try dsimp only [L2.cxOf]
  walk_at "s"
  refine ⟨a, ns, rfl, hS, hl, fun p H1 L1 => ?_⟩
  walk_at "s"
  refine lp_ints (ns := sums ns) (fun i σ H' => ∃ y, σ = [some (.ref a), y] ∧ H' = H1 ∧ ∀ k, k < i → 1 ≤ (ns.take (k + 1)).sum) ⟨none, rfl, rfl, fun _ h => absurd h (Nat.not_lt_zero _)⟩ (fun i σ H' _ ⟨_, _, e, _⟩ => e ▸ L1.sq 0) ?_ ?_
  · rintro i n σ H' hi ⟨y, rfl, rfl, hk⟩
    obtain ⟨h1, h2⟩ := sums_at hi
    walk_at "s"
    refine ited (fun c => ?_) (fun c => ?_)
    · walk_at "s"
      rw [goodB_no h1 (by omega)] at hq
      exact hq H' L1.none
    · walk_at "s"
      refine ⟨_, rfl, rfl, fun k hk' => ?_⟩
      by_cases e : k = i
      · subst e
        omega
      · exact hk k (by omega)
  · rintro σ H' ⟨y, rfl, rfl, hk⟩
    walk_at "s"
    rw [goodB_iff.mpr fun k h => hk k (by rw [sums_len]; exact h)] at hq
    exact hq H' L1.none
end Tr
namespace Tr
open PySem PySem.Spec PyProof.Rows L2
def sp_is_word (K : PySem.W.Frag) : Sp := fun vs H Q _ => ∃ (a : Addr) (ns : List Int), vs = [.ref a] ∧ SqL K H a (ns.map V.int) ∧ ns.length ≤ 1000 ∧ newV H Q (.bl (isWB ns))
theorem ok_is_word {P : Program} {w : World} {K : PySem.W.Frag} {mg : Str → Option Value} {base : Heap} (T : Txt K mg) : Fn P w K mg base (L2.CX P w) 3 "is_word" ["numbers"] (sp_is_word K) := by
  refine fnOf1 T.f_is_word sc_is_word (fun vs H Q E h => ?_) (fun f cdv A outer s H vs Q E hr h => ⟨_, (pss_cons (ps_for (passes_of rfl) rfl (kiList K (pv 0)) (pg_name (i := 1) sc_is_word.nd rfl (Or.inl rfl)) (pss_one (ps_if (pt_cmpR op_gLt (pv 1) pe_int (nomark _)) (pss_one (ps_ret pe_bl)) pss_nil)))
      (pss_one (ps_ret (pe_and (pe_cmpR op_gGt (pe_callB (kLen K) (by rfl) T.m_len (by decide +kernel) (pa_cons (pv 0) pa_nil)) pe_int (nomark _)) (pe_one (pe_callF (ok_is_good T) (hr.mono (by decide)) rfl passL (pa_cons (pe_lc (own := [("number", 1)]) (g := gName 1) rfl sc_is_word.nd (RT.pi_revA rfl T.m_reversed (pv 0)) (blkOk_by (N := n_is_word) (sc := defScope s_is_word) (by decide +kernel)) (fun _ _ _ _ _ => pg_name (i := 1) sc_is_word.nd rfl (Or.inl rfl)) (fun _ _ _ _ _ => pts_nil) (fun _ _ _ _ _ => (pe_op op_gSub pe_int (pv 1)))) pa_nil))))))), ?_⟩)
  · obtain ⟨a, ns, rfl, _⟩ := h
    rfl
  obtain ⟨a, ns, rfl, hS, hl, hq⟩ := h
  try dsimp only [L2.cxOf]
  walk_at "s"
  refine lp_ints (ns := ns) (fun i σ H' => ∃ y, σ = [some (.ref a), y] ∧ H' = H ∧ ∀ n ∈ ns.take i, 0 ≤ n) ⟨none, rfl, rfl, by simp⟩ (fun i σ H' _ ⟨_, _, e, _⟩ => e ▸ hS) ?_ ?_
  · rintro i n σ H' hi ⟨y, rfl, rfl, hk⟩
    walk_at "s"
    refine ited (fun c => ?_) (fun c => ?_)
    · walk_at "s"
      have e : isWB ns = false := by
        cases h : isWB ns with
        | false => rfl
        | true =>
          have := ((okW_iff ns).mp (isWB_iff.mp h).2).1 n (mem_take hi)
          omega
      rw [e] at hq
      exact hq _ (Led.start _)
    · walk_at "s"
      refine ⟨some (.int n), rfl, rfl, fun m hm => ?_⟩
      rw [List.take_add_one, hi] at hm
      rcases List.mem_append.mp hm with hm | hm
      · exact hk m hm
      · have e : m = n := by simpa using hm
        subst e
        omega
  · rintro σ H' ⟨y, rfl, rfl, hk⟩
    rw [List.take_length] at hk
    walk_at "s"
    rw [List.length_map]
    have hall : ns.all (fun n => decide (0 ≤ n)) = true := List.all_eq_true.mpr fun n hn => decide_eq_true (hk n hn)
    refine ited (fun c => ?_) (fun c => ?_)
    · walk_at "s"
      refine lc_revI (fun n => .int (1 - n)) (Led.start _) (fun H1 t1 s1 _ _ => s1.seq hS) ?_ ?_
      · intro i n D H1 hi L t
        walk_at "s"
        refine ⟨rfl, ?_⟩
        walk_at "s"
        refine rd_mapIEnd [] L t hi (by have := (List.getElem?_eq_some_iff.mp hi).1; rw [List.length_reverse] at this; omega) rfl
      · intro D H1 L t
        walk_at "s"
        have L' : Led _ H1 [(D, .lst ((rowOf ns).map V.int))] := L.to (by unfold rowOf; rw [List.map_map]; rfl)
        refine ⟨D, rowOf ns, rfl, L'.sq 0, by unfold rowOf; rw [List.length_map, List.length_reverse]; exact hl, fun H2 L2 => ?_⟩
        have e : isWB ns = goodB (rowOf ns) := by
          unfold isWB
          rw [hall, decide_eq_true (show 0 < ns.length by omega)]
          rfl
        rw [e] at hq
        exact hq _ (L'.call L2).none
    · walk_at "s"
      have e : isWB ns = false := by
        unfold isWB
        rw [decide_eq_false (show ¬ 0 < ns.length by omega)]
        simp
      rw [e] at hq
      exact hq _ (Led.start _)
end Tr
namespace Tr
open PySem PySem.Spec PyProof.Rows L2
def sp_words_among (K : PySem.W.Frag) : Sp := fun vs H Q _ => ∃ (a : Addr) (ns : List Int), vs = [.ref a] ∧ SqL K H a (ns.map V.int) ∧ ns.length ≤ 100 ∧ newL H Q ((wordsAt ns).map fun k : Nat => V.int k)
theorem ok_words_among {P : Program} {w : World} {K : PySem.W.Frag} {mg : Str → Option Value} {base : Heap} (T : Txt K mg) : Fn P w K mg base (L2.CX P w) 4 "words_among" ["numbers"] (sp_words_among K) := by
  refine fnOf1 T.f_words_among sc_words_among (fun vs H Q E h => ?_) (fun f cdv A outer s H vs Q E hr h => ⟨_, (pss_one (ps_ret (pe_lc (own := [("k", 1)]) (g := gName 1) rfl sc_words_among.nd (pi_range1 rfl T.m_range (pa_cons (pe_callB (kLen K) (by rfl) T.m_len (by decide +kernel) (pa_cons (pv 0) pa_nil)) pa_nil)) (blkOk_by (N := n_words_among) (sc := defScope s_words_among) (by decide +kernel)) (fun _ _ _ _ _ => pg_name (i := 1) sc_words_among.nd rfl (Or.inl rfl)) (fun _ _ _ _ _ => (pts_one (pt_val (pe_callF (ok_is_word T) (hr.mono (by decide)) rfl passL (pa_cons (pe_op op_gAdd (pe_slice (kSl K) (pv 0) (po_some (pv 1)) po_none) (pe_slice (kSl K) (pv 0) po_none (po_some (pv 1)))) pa_nil))))) (fun _ _ _ _ _ => (pv 1))))), ?_⟩)
  · obtain ⟨a, ns, rfl, _⟩ := h
    rfl
  obtain ⟨a, ns, rfl, hS, hl, hq⟩ := h
  try dsimp only [L2.cxOf]
  walk_at "s"
  rw [List.length_map]
  refine rd_itR1 ns.length (Int.toNat_natCast _) (by omega) (by omega) ?_
  refine lc_rng (Led.start H) fun D H2 L2 _ => ⟨fun i H3 => Led H H3 [(D, .lst (((List.range i).filter fun k => isWB (turn ns k)).map fun k : Nat => V.int k))], L2, fun i H3 hi L3 => ?_, fun H3 L3 => hq D H3 L3⟩
  have e : (0 : Int) + (i : Nat) = (i : Nat) := by omega
  rw [e]
  walk_at "s"
  refine ⟨rfl, ?_⟩
  walk_at "s"
  refine rd_slL L3 (L3.seq hS) fun p4 H4 L4 _ => ?_
  walk_at "s"
  refine rd_slL L4 (L4.seq hS) fun p5 H5 L5 _ => ?_
  refine rd_addL L5 (L5.get 1) (L5.get 0) (sz (m := 200) (by
    have := cutV_length (ns.map V.int) (some (i : Int)) none
    have := cutV_length (ns.map V.int) none (some (i : Int))
    rw [List.length_map] at *
    omega)) fun p6 H6 L6 _ => ?_
  rw [turn_cut] at L6
  walk_at "s"
  refine ⟨p6, turn ns i, rfl, L6.sq 0, by rw [turn_len]; omega, fun H7 M7 => ?_⟩
  have L7 : Led H H7 [(D, .lst (((List.range i).filter fun k => isWB (turn ns k)).map fun k : Nat => V.int k))] := (L6.call M7).drop1 (m := [_, _, _])
  walk_at "s"
  refine iteB (fun c => ?_) (fun c => ?_)
  · walk_at "s"
    refine rd_put1 L7 0 rfl (by
      rw [List.length_map]
      refine szl (m := 200) (Nat.le_trans (List.length_filter_le _ _) ?_)
      rw [List.length_range]
      omega) fun H8 L8 _ => L8.to ?_
    rw [List.range_succ, List.filter_append, List.map_append]
    simp [c]
  · refine L7.to ?_
    rw [List.range_succ, List.filter_append, List.map_append]
    simp [c]
end Tr
namespace Tr
open PySem PySem.Spec PyProof.Rows L2
def sp_see_row (K : PySem.W.Frag) : Sp := fun vs H Q E => ∃ a ns, vs = [.ref a] ∧ SqL K H a (ns.map V.int) ∧ (isRow ns → newV H Q .non) ∧ (¬ isRow ns → newE K H E "BadRow")
theorem ok_see_row {P : Program} {w : World} {K : PySem.W.Frag} {mg : Str → Option Value} {base : Heap} (T : Txt K mg) : Fn P w K mg base (L2.CX P w) 1 "see_row" ["row"] (sp_see_row K) := by
  refine fnOf1 T.f_see_row sc_see_row (fun vs H Q E h => ?_) (fun f cdv A outer s H vs Q E hr h => ⟨_, (pss_cons (ps_if (PW.pt (pw_or (pt_cmpR op_gLt (pe_callB (kLen K) (by rfl) T.m_len (by decide +kernel) (pa_cons (pv 0) pa_nil)) pe_int (nomark _)) (pw_or1 (pt_cmpR op_gGt (pe_callB (kLen K) (by rfl) T.m_len (by decide +kernel) (pa_cons (pv 0) pa_nil)) (pe_gint T.c_MOST rfl) (nomark _))))) (pss_one (ps_rz T.e_BadRow rfl (takes_of rfl rfl rfl rfl) rfl)) pss_nil)
      (pss_one (ps_for (passes_of rfl) rfl (kiList K (pv 0)) (pg_name (i := 1) sc_see_row.nd rfl (Or.inl rfl)) (pss_one (ps_if (PW.pt (pw_or (pt_cmpR op_gGt (pv 1) pe_int (nomark _)) (pw_or1 (pt_cmpR op_gLt (pv 1) (pe_un op_gNeg (pe_gint T.c_MOST rfl)) (nomark _))))) (pss_one (ps_rz T.e_BadRow rfl (takes_of rfl rfl rfl rfl) rfl)) pss_nil))))), ?_⟩)
  · obtain ⟨a, ns, rfl, _⟩ := h
    rfl
  obtain ⟨a, ns, rfl, hS, hq, he⟩ := h
  try dsimp only [L2.cxOf]
  walk_at "s"
  have bad : ¬ isRow ns → E (.ref (He.ga K "BadRow")) none H := fun h => he h H (Led.start H)
  refine ited (fun c => ?_) (fun c => ?_)
  · walk_at "s"
    exact bad fun r => by
      have := r.1
      rw [List.length_map] at c
      omega
  walk_at "s"
  refine ited (fun c2 => ?_) (fun c2 => ?_)
  · walk_at "s"
    exact bad fun r => by
      have := r.2.1
      rw [List.length_map] at c2
      omega
  rw [List.length_map] at c c2
  walk_at "s"
  refine lp_ints (ns := ns) (fun i σ H' => ∃ y, σ = [some (.ref a), y] ∧ H' = H ∧ ∀ n ∈ ns.take i, n ≤ 1 ∧ -60 ≤ n) ⟨none, rfl, rfl, by simp⟩ (fun i σ H' _ ⟨_, _, e, _⟩ => e ▸ hS) ?_ ?_
  · rintro i n σ H' hi ⟨y, rfl, rfl, hn⟩
    walk_at "s"
    refine ited (fun c3 => ?_) (fun c3 => ?_)
    · walk_at "s"
      exact bad fun r => by
        have := r.2.2 n (mem_take hi)
        omega
    walk_at "s"
    refine ited (fun c4 => ?_) (fun c4 => ?_)
    · walk_at "s"
      exact bad fun r => by
        have := r.2.2 n (mem_take hi)
        omega
    walk_at "s"
    refine ⟨some (.int n), rfl, rfl, fun m hm => ?_⟩
    rw [List.take_add_one, hi] at hm
    rcases List.mem_append.mp hm with hm | hm
    · exact hn m hm
    · have e : m = n := by simpa using hm
      subst e
      omega
  · rintro σ H' ⟨y, rfl, rfl, hn⟩
    rw [List.take_length] at hn
    exact hq ⟨by omega, by omega, hn⟩ _ (Led.start _)
end Tr
namespace Tr
open PySem PySem.Spec PyProof.Rows L2
def sp_starts (K : PySem.W.Frag) : Sp := fun vs H Q E => ∃ (a : Addr) (ns : List Int), vs = [.ref a] ∧ SqL K H a (ns.map V.int) ∧ (isRow ns → newL H Q ((startsOf ns).map fun k : Nat => V.int k)) ∧ (¬ isRow ns → newE K H E "BadRow")
theorem ok_starts {P : Program} {w : World} {K : PySem.W.Frag} {mg : Str → Option Value} {base : Heap} (T : Txt K mg) : Fn P w K mg base (L2.CX P w) 3 "starts" ["row"] (sp_starts K) := by
  refine fnOf1 T.f_starts sc_starts (fun vs H Q E h => ?_) (fun f cdv A outer s H vs Q E hr h => ⟨_, (pss_cons (ps_expr (pe_callF (ok_see_row T) (hr.mono (by decide)) rfl (passes_call (E := E) (takes_of rfl rfl rfl rfl) (fun _ _ _ _ h => h)) (pa_cons (pv 0) pa_nil)))
      (pss_one (ps_ret (pe_lc (own := [("k", 1)]) (g := gName 1) rfl sc_starts.nd (pi_range1 rfl T.m_range (pa_cons (pe_callB (kLen K) (by rfl) T.m_len (by decide +kernel) (pa_cons (pv 0) pa_nil)) pa_nil)) (blkOk_by (N := n_starts) (sc := defScope s_starts) (by decide +kernel)) (fun _ _ _ _ _ => pg_name (i := 1) sc_starts.nd rfl (Or.inl rfl)) (fun _ _ _ _ _ => (pts_one (pt_val (pe_callF (ok_is_good T) (hr.mono (by decide)) rfl passL (pa_cons (pe_op op_gAdd (pe_slice (kSl K) (pv 0) (po_some (pv 1)) po_none) (pe_slice (kSl K) (pv 0) po_none (po_some (pv 1)))) pa_nil))))) (fun _ _ _ _ _ => (pv 1)))))), ?_⟩)
  · obtain ⟨a, ns, rfl, _⟩ := h
    rfl
  obtain ⟨a, ns, rfl, hS, hq, he⟩ := h
  try dsimp only [L2.cxOf]
  walk_at "s"
  refine ⟨a, ns, rfl, hS, fun hro H1 L1 => ?_, he⟩
  have hr2 := hro.2.1
  have hS1 := L1.seq hS
  walk_at "s"
  rw [List.length_map]
  refine rd_itR1 ns.length (Int.toNat_natCast _) (by omega) (by omega) ?_
  refine lc_rng L1 fun D H2 L2 _ => ⟨fun i H3 => Led H H3 [(D, .lst (((List.range i).filter fun k => goodB (turn ns k)).map fun k : Nat => V.int k))], L2, fun i H3 hi L3 => ?_, fun H3 L3 => hq hro D H3 L3⟩
  have e : (0 : Int) + (i : Nat) = (i : Nat) := by omega
  rw [e]
  walk_at "s"
  refine ⟨rfl, ?_⟩
  walk_at "s"
  refine rd_slL L3 (L3.seq hS) fun p4 H4 L4 _ => ?_
  walk_at "s"
  refine rd_slL L4 (L4.seq hS) fun p5 H5 L5 _ => ?_
  refine rd_addL L5 (L5.get 1) (L5.get 0) (sz (m := 200) (by
    have := cutV_length (ns.map V.int) (some (i : Int)) none
    have := cutV_length (ns.map V.int) none (some (i : Int))
    rw [List.length_map] at *
    omega)) fun p6 H6 L6 _ => ?_
  rw [turn_cut] at L6
  walk_at "s"
  refine ⟨p6, turn ns i, rfl, L6.sq 0, by rw [turn_len]; omega, fun H7 M7 => ?_⟩
  have L7 : Led H H7 [(D, .lst (((List.range i).filter fun k => goodB (turn ns k)).map fun k : Nat => V.int k))] := (L6.call M7).drop1 (m := [_, _, _])
  walk_at "s"
  refine iteB (fun c => ?_) (fun c => ?_)
  · walk_at "s"
    refine rd_put1 L7 0 rfl (by
      rw [List.length_map]
      refine szl (m := 200) (Nat.le_trans (List.length_filter_le _ _) ?_)
      rw [List.length_range]
      omega) fun H8 L8 _ => L8.to ?_
    rw [List.range_succ, List.filter_append, List.map_append]
    simp [c]
  · refine L7.to ?_
    rw [List.range_succ, List.filter_append, List.map_append]
    simp [c]
end Tr
namespace Tr
open PySem PySem.Spec PyProof.Rows L2
def sp_law_nodes (K : PySem.W.Frag) : Sp := fun vs H Q _ => ∃ a ns, vs = [.ref a] ∧ SqL K H a (ns.map V.int) ∧ Q (.int (nodesOf ns)) H
theorem ok_law_nodes {P : Program} {w : World} {K : PySem.W.Frag} {mg : Str → Option Value} {base : Heap} (T : Txt K mg) : Fn P w K mg base (L2.CX P w) 2 "_law_nodes" ["script"] (sp_law_nodes K) := by
  refine fnOf1 T.f_law_nodes sc_law_nodes (fun vs H Q E h => ?_) (fun f cdv A outer s H vs Q E hr h => ⟨_, (pss_cons (ps_set (i := 1) sc_law_nodes.nd rfl (Or.inl rfl) (pe_callF (ok_law_cell_at T) (hr.mono (by decide)) rfl passL (pa_cons (pv 0) (pa_cons pe_int pa_nil))))
      (pss_cons (ps_if (pt_cmpR (kEq K hr.units) (pe_op op_gMod (pe_op op_gDiv (pv 1) pe_int) pe_int) pe_int (nomark _)) (pss_one (ps_ret (pe_op op_gAdd pe_int (pe_op op_gMod (pe_op op_gDiv (pv 1) pe_int) pe_int)))) pss_nil)
      (pss_one (ps_ret (pe_op op_gAdd pe_int (pe_op op_gMod (pv 1) pe_int)))))), ?_⟩)
  · obtain ⟨a, ns, rfl, _⟩ := h
    rfl
  obtain ⟨a, ns, rfl, hS, hq⟩ := h
  try dsimp only [L2.cxOf]
  walk_at "s"
  refine ⟨a, ns, 0, rfl, hS, ?_⟩
  walk_at "s"
  refine ited (fun c => ?_) (fun c => ?_)
  · walk_at "s"
    have e : ((nodesOf ns : Nat) : Int) = 1 + cell ns 0 / 48 % 60 := by
      unfold nodesOf
      rw [if_pos c]
      omega
    rw [e] at hq
    exact hq
  · walk_at "s"
    have e : ((nodesOf ns : Nat) : Int) = 1 + cell ns 0 % 12 := by
      unfold nodesOf
      rw [if_neg c]
      omega
    rw [e] at hq
    exact hq
end Tr
namespace Tr
open PySem PySem.Spec PyProof.Rows L2
def sp_law_whole (K : PySem.W.Frag) : Sp := fun vs H Q _ => ∃ n : Int, vs = [.int n] ∧ Q (.bl true) H
theorem ok_law_whole {P : Program} {w : World} {K : PySem.W.Frag} {mg : Str → Option Value} {base : Heap} (T : Txt K mg) : Fn P w K mg base (L2.CX P w) 1 "_law_whole" ["found"] (sp_law_whole K) := by
  refine fnOf1 T.f_law_whole sc_law_whole (fun vs H Q E h => ?_) (fun f cdv A outer s H vs Q E hr h => ⟨_, (pss_one (ps_ret (pe_and (pe_callB (kIsi K) (by rfl) T.m_isinstance (by decide +kernel) (pa_cons (pv 0) (pa_cons (pe_bltn (v := .ty "int") rfl T.m_int (by decide +kernel) rfl) pa_nil))) (pe_one (pe_not (pe_callB (kIsi K) (by rfl) T.m_isinstance (by decide +kernel) (pa_cons (pv 0) (pa_cons (pe_bltn (v := .ty "bool") rfl T.m_bool (by decide +kernel) rfl) pa_nil)))))))), ?_⟩)
  · obtain ⟨n, rfl, _⟩ := h
    rfl
  obtain ⟨n, rfl, hq⟩ := h
  try dsimp only [L2.cxOf]
  walk_at "s"
  refine rd_isi (t := .type "int") (b := true) (.base (.int n)) (kit_ty (by decide +kernel)) ?_
  walk_at "s"
  refine rd_isi (t := .type "int") (b := false) (.base (.int n)) (kit_ty (by decide +kernel)) ?_
  walk_at "s"
  exact hq
end Tr
namespace Tr
open PySem PySem.Spec PyProof.Rows L2
def sp_law_is_word (K : PySem.W.Frag) : Sp := fun vs H Q _ => ∃ (a : Addr) (ns : List Int), vs = [.ref a] ∧ SqL K H a (ns.map V.int) ∧ newV H Q (.bl (isWB ns))
theorem ok_law_is_word {P : Program} {w : World} {K : PySem.W.Frag} {mg : Str → Option Value} {base : Heap} (T : Txt K mg) : Fn P w K mg base (L2.CX P w) 1 "_law_is_word" ["numbers"] (sp_law_is_word K) := by
  refine fnOf1 T.f_law_is_word sc_law_is_word (fun vs H Q E h => ?_) (fun f cdv A outer s H vs Q E hr h => ⟨_, (pss_cons (ps_set (i := 1) sc_law_is_word.nd rfl (Or.inl rfl) pe_int)
      (pss_cons (ps_for (passes_of rfl) rfl (kiList K (pv 0)) (pg_name (i := 2) sc_law_is_word.nd rfl (Or.inl rfl)) (pss_cons (ps_if (pt_cmpR op_gLt (pv 2) pe_int (nomark _)) (pss_one (ps_ret pe_bl)) pss_nil)
      (pss_cons (ps_if (pt_cmpR (kEq K hr.units) (pv 1) pe_int (nomark _)) (pss_one (ps_set (i := 1) sc_law_is_word.nd rfl (Or.inl rfl) pe_int)) pss_nil)
      (pss_one (ps_set (i := 1) sc_law_is_word.nd rfl (Or.inl rfl) (pe_op op_gAdd (pe_op op_gSub (pv 1) pe_int) (pv 2)))))))
      (pss_one (ps_ret (pe_and (pe_cmpR op_gGt (pe_callB (kLen K) (by rfl) T.m_len (by decide +kernel) (pa_cons (pv 0) pa_nil)) pe_int (nomark _)) (pe_one (pe_cmpR (kEq K hr.units) (pv 1) pe_int (nomark _)))))))), ?_⟩)
  · obtain ⟨a, ns, rfl, _⟩ := h
    rfl
  obtain ⟨a, ns, rfl, hS, hq⟩ := h
  try dsimp only [L2.cxOf]
  walk_at "s"
  refine lp_ints (ns := ns) (fun i σ H' => ∃ y, σ = [some (.ref a), some (.int (pendR (ns.take i).reverse)), y] ∧ H' = H ∧ ∀ n ∈ ns.take i, 0 ≤ n) ⟨none, rfl, rfl, by simp⟩ (fun i σ H' _ ⟨_, _, e, _⟩ => e ▸ hS) ?_ ?_
  · rintro i n σ H' hi ⟨y, rfl, rfl, hk⟩
    walk_at "s"
    refine ited (fun c => ?_) (fun c => ?_)
    · walk_at "s"
      have e : isWB ns = false := by
        cases h : isWB ns with
        | false => rfl
        | true =>
          have := ((okW_iff ns).mp (isWB_iff.mp h).2).1 n (mem_take hi)
          omega
      rw [e] at hq
      exact hq _ (Led.start _)
    walk_at "s"
    have h0 := pendR_nn (l := (ns.take i).reverse) fun n hn => hk n (List.mem_reverse.mp hn)
    refine if_asg rfl ?_
    have e : (if pendR (ns.take i).reverse = 0 then V.int 1 else V.int (pendR (ns.take i).reverse)) = V.int (max (pendR (ns.take i).reverse - 1) 0 + 1) := by
      split <;> (congr 1; omega)
    rw [e]
    walk_at "s"
    have e2 : pendR (ns.take (i + 1)).reverse = max (pendR (ns.take i).reverse - 1) 0 + 1 - 1 + n := by
      rw [List.take_add_one, hi, Option.toList_some, List.reverse_append, List.reverse_singleton, List.singleton_append, pendR]
      omega
    refine ⟨_, by rw [e2]; rfl, rfl, fun m hm => ?_⟩
    rw [List.take_add_one, hi] at hm
    rcases List.mem_append.mp hm with hm | hm
    · exact hk m hm
    · have e : m = n := by simpa using hm
      subst e
      omega
  · rintro σ H' ⟨y, rfl, rfl, hk⟩
    rw [List.take_length] at hk ⊢
    rw [isWB_pend hk] at hq
    walk_at "s"
    rw [List.length_map]
    refine ited (fun c => ?_) (fun c => ?_)
    · walk_at "s"
      rw [decide_eq_true (show 0 < ns.length by omega)] at hq
      exact hq _ (Led.start _)
    · walk_at "s"
      rw [decide_eq_false (show ¬ 0 < ns.length by omega)] at hq
      exact hq _ (Led.start _)
end Tr
namespace Tr
open PySem PySem.Spec PyProof.Rows L2
def sp_see_word (K : PySem.W.Frag) : Sp := fun vs H Q E => ∃ (a : Addr) (ns : List Int), vs = [.ref a] ∧ SqL K H a (ns.map V.int) ∧ ns.length ≤ 1000 ∧ (isWB ns = true → newV H Q .non) ∧ (isWB ns = false → newE K H E "NoWord")
theorem ok_see_word {P : Program} {w : World} {K : PySem.W.Frag} {mg : Str → Option Value} {base : Heap} (T : Txt K mg) : Fn P w K mg base (L2.CX P w) 4 "see_word" ["word"] (sp_see_word K) := by
  refine fnOf1 T.f_see_word sc_see_word (fun vs H Q E h => ?_) (fun f cdv A outer s H vs Q E hr h => ⟨_, (pss_one (ps_if (pt_not (pt_val (pe_callF (ok_is_word T) (hr.mono (by decide)) rfl passL (pa_cons (pv 0) pa_nil)))) (pss_one (ps_rz T.e_NoWord rfl (takes_of rfl rfl rfl rfl) rfl)) pss_nil)), ?_⟩)
  · obtain ⟨a, ns, rfl, _⟩ := h
    rfl
  obtain ⟨a, ns, rfl, hS, hl, hq, he⟩ := h
  try dsimp only [L2.cxOf]
  walk_at "s"
  refine ⟨a, ns, rfl, hS, hl, fun H1 L1 => ?_⟩
  walk_at "s"
  refine iteBN (fun c => ?_) (fun c => ?_)
  · walk_at "s"
    exact he c _ L1
  · walk_at "s"
    exact hq c _ L1
end Tr
namespace Tr
open PySem PySem.Spec PyProof.Rows L2
def sp_grove_of (K : PySem.W.Frag) : Sp := fun vs H Q E => ∃ (a : Addr) (ns : List Int), vs = [.ref a] ∧ SqL K H a (ns.map V.int) ∧ ns.length ≤ 1000 ∧ (isWB ns = true → newG H Q (Gr.par ns)) ∧ (isWB ns = false → newE K H E "NoWord")
theorem ok_grove_of {P : Program} {w : World} {K : PySem.W.Frag} {mg : Str → Option Value} {base : Heap} (T : Txt K mg) : Fn P w K mg base (L2.CX P w) 5 "grove_of" ["word"] (sp_grove_of K) := by
  refine fnOf1 T.f_grove_of sc_grove_of (fun vs H Q E h => ?_) (fun f cdv A outer s H vs Q E hr h => ⟨_, (pss_cons (ps_expr (pe_callF (ok_see_word T) (hr.mono (by decide)) rfl (passes_call (E := E) (takes_of rfl rfl rfl rfl) (fun _ _ _ _ h => h)) (pa_cons (pv 0) pa_nil)))
      (pss_cons (ps_set (i := 1) sc_grove_of.nd rfl (Or.inr rfl) (pe_lst pa_nil))
      (pss_cons (ps_for (passes_of rfl) rfl (RT.pi_revA rfl T.m_reversed (pv 0)) (pg_name (i := 2) sc_grove_of.nd rfl (Or.inl rfl)) (pss_cons (ps_setLc (i := 3) (own := [("k", 4)]) (g := gName 4) rfl sc_grove_of.nd rfl rfl (sw_true rfl rfl rfl (by decide +kernel)) (pi_range1 rfl T.m_range (pa_cons (pv 2) pa_nil)) (blkOk_by (N := n_grove_of) (sc := defScope s_grove_of) (by decide +kernel)) (fun _ _ _ _ _ => pg_name (i := 4) sc_grove_of.nd rfl (Or.inl rfl)) (fun _ _ _ _ _ => pts_nil) (fun _ _ _ _ _ => (kbm0 K PySem.F.plainAttrs_list PySem.F.slot_list_pop PySem.F.type_list_pop mt_pop (pv 1))))
      (pss_one (ps_expr (kbm K PySem.F.plainAttrs_list PySem.F.slot_list_append PySem.F.type_list_append mt_append (pv 1) (pa_cons (pe_callTy (kTuple K) (by rfl) T.m_tuple (by decide +kernel) (pa_cons (pv 3) pa_nil)) pa_nil))))))
      (pss_one (ps_ret (pe_listRev rfl rfl T.m_list rfl T.m_reversed (pv 1))))))), ?_⟩)
  · obtain ⟨a, ns, rfl, _⟩ := h
    rfl
  obtain ⟨a, ns, rfl, hS, hl, hq, he⟩ := h
  try dsimp only [L2.cxOf]
  walk_at "s"
  refine ⟨a, ns, rfl, hS, hl, fun hw H1 L1 => ?_, fun hw H1 L1 => he hw H1 L1⟩
  have hok := (isWB_iff.mp hw).2
  walk_at "s"
  refine rd_mkL L1 (sz (Nat.zero_le 0)) fun p H2 L2 t2 => ?_
  walk_at "s"
  refine lp_rev (fun i σ H' => ∃ y z us, i ≤ ns.length ∧ σ = [some (.ref a), some (.ref p), y, z, none] ∧ Led H H' [(p, .lst us.reverse)] ∧ GAt H' (Gr.par (ns.drop (ns.length - i))) us)
    ⟨none, none, [], Nat.zero_le _, rfl, L2, by rw [Nat.sub_zero, List.drop_length]; rfl⟩ (fun i σ H' ⟨_, _, _, _, _, L, _⟩ => L.seq hS) ?_ ?_
  · rintro i x σ H' hi hx ⟨y, z, us, hi2, rfl, L, hg⟩
    rw [List.length_map] at hi hx
    rw [List.getElem?_map] at hx
    have hj : ns.length - 1 - i < ns.length := by omega
    rw [List.getElem?_eq_getElem hj] at hx
    cases hx
    generalize hn : ns[ns.length - 1 - i] = n
    have hd : ns.drop (ns.length - (i + 1)) = n :: ns.drop (ns.length - i) := by
      have e : ns.length - (i + 1) = ns.length - 1 - i := by omega
      rw [e, List.drop_eq_getElem_cons hj, hn]
      congr 2
      omega
    have hok2 := Gr.okW_drop (ns.length - (i + 1)) hok
    rw [hd] at hok2 ⊢
    obtain ⟨n0, n1, n2⟩ := hok2
    have hul := hg.len
    have hsz := Gr.len_le (Gr.par (ns.drop (ns.length - i)))
    rw [Gr.size_par n2, List.length_drop] at hsz
    walk_at "s"
    refine rd_itR1 n.toNat rfl (by omega) (by omega) ?_
    refine lc_rng L fun D H3 L3 t3 => ⟨fun j H4 => Led H H4 [(D, .lst (us.take j)), (p, .lst (us.drop j).reverse)] ∧ Ts H' H4, ⟨L3, t3⟩, ?_, ?_⟩
    · rintro j H4 hj4 ⟨L4, t4⟩
      have hlt : j < us.length := by omega
      walk_at "s"
      refine ⟨rfl, ?_⟩
      walk_at "s"
      rw [List.drop_eq_getElem_cons hlt, List.reverse_cons] at L4
      refine rd_pop L4 1 rfl fun H5 L5 t5 => ?_
      refine rd_put1 L5 0 rfl (by rw [List.length_take]; exact szl (m := 1000) (by omega)) fun H6 L6 t6 => ⟨L6.to ?_, (t4.trans t5).trans t6⟩
      rw [List.take_add_one, List.getElem?_eq_getElem hlt]
      rfl
    · rintro H4 ⟨L4, t4⟩
      walk_at "s"
      refine rd_tuple L4 (L4.sq 0) fun p5 H5 L5 t5 => ?_
      walk_at "s"
      refine rd_append L5 2 rfl (by rw [List.length_reverse, List.length_drop]; exact szl (m := 1000) (by omega)) fun H6 L6 t6 => ?_
      have tz := (t4.trans t5).trans t6
      have hx : H6 p5 = some (.tup (us.take n.toNat)) := t6 _ _ (L5.get 0)
      have hgz := hg.mono tz
      refine ⟨_, _, .ref p5 :: us.drop n.toNat, by omega, rfl, (L6.drop1 (m := [_, _])).to ?_, p5, us.take n.toNat, us.drop n.toNat, rfl, hx, hgz.take _, hgz.drop _⟩
      rw [List.reverse_cons]
  · rintro σ H' ⟨y, z, us, hi2, rfl, L, hg⟩
    walk_at "s"
    refine rd_listRevL L (L.sq 0) fun p2 H3 L3 t3 => ?_
    rw [List.reverse_reverse] at L3
    rw [List.length_map, Nat.sub_self, List.drop_zero] at hg
    exact hq hw p2 us H3 L3.only (hg.mono t3)
end Tr
namespace Tr
open PySem PySem.Spec PyProof.Rows L2
def sp_law (K : PySem.W.Frag) : Sp := fun vs H Q _ => ∃ (a : Addr) (ns : List Int), vs = [.ref a] ∧ SqL K H a (ns.map V.int) ∧ ns.length ≤ 63 ∧ ∀ H', Q (.bl true) H'
theorem map_ints (ks : List Nat) : (ks.map fun k : Nat => V.int k) = (ks.map fun k : Nat => (k : Int)).map V.int := by
  rw [List.map_map]
  rfl
theorem thrice_row {ns : List Int} (h : isRow ns) : isRow (ns.take 20 ++ ns.take 20 ++ ns.take 20) := by
  obtain ⟨h1, h2, h3⟩ := h
  refine ⟨?_, ?_, fun n hn => h3 n ?_⟩
  · simp only [List.length_append, List.length_take]
    omega
  · simp only [List.length_append, List.length_take]
    omega
  · simp only [List.mem_append] at hn
    rcases hn with (hn | hn) | hn <;> exact List.mem_of_mem_take hn
theorem ok_law {P : Program} {w : World} {K : PySem.W.Frag} {mg : Str → Option Value} {base : Heap} (T : Txt K mg) : Fn P w K mg base (L2.CX P w) 6 "law" ["script"] (sp_law K) := by
  refine fnOf1 T.f_law sc_law (fun vs H Q E h => ?_) (fun f cdv A outer s H vs Q E hr h => ⟨_, (pss_cons (ps_set (i := 1) sc_law.nd rfl (Or.inl rfl) (pe_callF (ok_law_row_by T) (hr.mono (by decide)) rfl passL (pa_cons (pv 0) (pa_cons pe_int (pa_cons (pe_callF (ok_law_nodes T) (hr.mono (by decide)) rfl passL (pa_cons (pv 0) pa_nil)) (pa_cons (pe_op op_gMod (pe_callF (ok_law_cell_at T) (hr.mono (by decide)) rfl passL (pa_cons (pv 0) (pa_cons pe_int pa_nil))) pe_int) pa_nil))))))
      (pss_cons (ps_if (pt_cmpR (kEq K hr.units) (pe_op op_gMod (pe_op op_gDiv (pe_callF (ok_law_cell_at T) (hr.mono (by decide)) rfl passL (pa_cons (pv 0) (pa_cons pe_int pa_nil))) pe_int) pe_int) pe_int (nomark _)) (pss_one (ps_set (i := 1) sc_law.nd rfl (Or.inl rfl) (pe_op op_gAdd (pe_op op_gAdd (pe_slice (kSl K) (pv 1) po_none (po_some pe_int)) (pe_slice (kSl K) (pv 1) po_none (po_some pe_int))) (pe_slice (kSl K) (pv 1) po_none (po_some pe_int))))) pss_nil)
      (pss_cons (ps_set (i := 2) sc_law.nd rfl (Or.inr rfl) (pe_lc (own := [("number", 10)]) (g := gName 10) rfl sc_law.nd (kiList K (pv 1)) (blkOk_by (N := n_law) (sc := defScope s_law) (by decide +kernel)) (fun _ _ _ _ _ => pg_name (i := 10) sc_law.nd rfl (Or.inl rfl)) (fun _ _ _ _ _ => pts_nil) (fun _ _ _ _ _ => (pe_callB (kMin K rfl) (by rfl) T.m_min (by decide +kernel) (pa_cons pe_int (pa_cons (pe_op op_gSub pe_int (pv 10)) pa_nil))))))
      (pss_cons (ps_set (i := 3) sc_law.nd rfl (Or.inl rfl) (pe_callTy (kList K) (by rfl) T.m_list (by decide +kernel) (pa_cons (pv 2) pa_nil)))
      (pss_cons (ps_set (i := 4) sc_law.nd rfl (Or.inl rfl) (pe_callF (ok_words_among T) (hr.mono (by decide)) rfl passL (pa_cons (pv 3) pa_nil)))
      (pss_cons (ps_set (i := 5) sc_law.nd rfl (Or.inl rfl) (pe_callB (kMax K rfl) (by rfl) T.m_max (by decide +kernel) (pa_cons pe_int (pa_cons (pe_op op_gSub (pe_callB (kLen K) (by rfl) T.m_len (by decide +kernel) (pa_cons (pv 2) pa_nil)) (pe_callB (kSum K rfl) (by rfl) T.m_sum (by decide +kernel) (pa_cons (pv 2) pa_nil))) pa_nil))))
      (pss_cons (ps_if (PW.pt (pw_or (pt_cmpR (kNe K hr.units) (pv 3) (pv 2) (nomark _)) (pw_or (pt_not (pt_val (pe_callB (kIsi K) (by rfl) T.m_isinstance (by decide +kernel) (pa_cons (pv 4) (pa_cons (pe_bltn (v := .ty "list") rfl T.m_list (by decide +kernel) rfl) pa_nil))))) (pw_or1 (pt_cmpR (kNe K hr.units) (pe_callB (kLen K) (by rfl) T.m_len (by decide +kernel) (pa_cons (pv 4) pa_nil)) (pv 5) (nomark _)))))) (pss_one (ps_ret pe_bl)) pss_nil)
      (pss_cons (ps_set (i := 6) sc_law.nd rfl (Or.inl rfl) (pe_un op_gNeg pe_int))
      (pss_cons (ps_for (passes_of rfl) rfl (kiList K (pv 4)) (pg_name (i := 7) sc_law.nd rfl (Or.inl rfl)) (pss_cons (ps_if (PW.pt (pw_or (pt_not (pt_val (pe_callF (ok_law_whole T) (hr.mono (by decide)) rfl passL (pa_cons (pv 7) pa_nil)))) (pw_or (pt_cmpR op_gLe (pv 7) (pv 6) (nomark _)) (pw_or1 (pt_cmpR op_gGe (pv 7) (pe_callB (kLen K) (by rfl) T.m_len (by decide +kernel) (pa_cons (pv 2) pa_nil)) (nomark _)))))) (pss_one (ps_ret pe_bl)) pss_nil)
      (pss_cons (ps_set (i := 6) sc_law.nd rfl (Or.inl rfl) (pv 7))
      (pss_cons (ps_set (i := 8) sc_law.nd rfl (Or.inl rfl) (pe_op op_gAdd (pe_slice (kSl K) (pv 2) (po_some (pv 7)) po_none) (pe_slice (kSl K) (pv 2) po_none (po_some (pv 7)))))
      (pss_one (ps_if (PW.pt (pw_or (pt_not (pt_val (pe_callF (ok_law_is_word T) (hr.mono (by decide)) rfl passL (pa_cons (pv 8) pa_nil)))) (pw_or1 (pt_cmpR (kNe K hr.units) (pe_callB (kLen K) (by rfl) T.m_len (by decide +kernel) (pa_cons (pe_callF (ok_grove_of T) (hr.mono (by decide)) rfl passL (pa_cons (pv 8) pa_nil)) pa_nil)) (pv 5) (nomark _))))) (pss_one (ps_ret pe_bl)) pss_nil))))))
      (pss_cons (ps_set (i := 9) sc_law.nd rfl (Or.inl rfl) (pe_callF (ok_starts T) (hr.mono (by decide)) rfl passL (pa_cons (pe_lc (own := [("number", 10)]) (g := gName 10) rfl sc_law.nd (kiList K (pe_revL (pv 2))) (blkOk_by (N := n_law) (sc := defScope s_law) (by decide +kernel)) (fun _ _ _ _ _ => pg_name (i := 10) sc_law.nd rfl (Or.inl rfl)) (fun _ _ _ _ _ => pts_nil) (fun _ _ _ _ _ => (pe_op op_gSub pe_int (pv 10)))) pa_nil)))
      (pss_one (ps_ret (pe_cmpR (kEq K hr.units) (pe_callB (kSorted K) (by rfl) T.m_sorted (by decide +kernel) (pa_cons (pe_lc (own := [("k", 7)]) (g := gName 7) rfl sc_law.nd (kiList K (pv 9)) (blkOk_by (N := n_law) (sc := defScope s_law) (by decide +kernel)) (fun _ _ _ _ _ => pg_name (i := 7) sc_law.nd rfl (Or.inl rfl)) (fun _ _ _ _ _ => pts_nil) (fun _ _ _ _ _ => (pe_op op_gMod (pe_op op_gSub (pe_callB (kLen K) (by rfl) T.m_len (by decide +kernel) (pa_cons (pv 2) pa_nil)) (pv 7)) (pe_callB (kLen K) (by rfl) T.m_len (by decide +kernel) (pa_cons (pv 2) pa_nil))))) pa_nil)) (pv 4) (nomark _)))))))))))))), ?_⟩)
  · obtain ⟨a, ns, rfl, _⟩ := h
    rfl
  obtain ⟨a, ns, rfl, hS, hl, hq⟩ := h
  try dsimp only [L2.cxOf]
  walk_at "s"
  refine ⟨a, ns, rfl, hS, ?_⟩
  walk_at "s"
  refine ⟨a, ns, 1, rfl, hS, ?_⟩
  walk_at "s"
  refine ⟨a, ns, 3, nodesOf ns, cell ns 1 % 4, rfl, hS, (nodesOf_le ns).2, fun pr H1 L1 => ?_⟩
  have hro : isRow (rowBy ns 3 (nodesOf ns) (cell ns 1 % 4)) := rowBy_row (nodesOf_le ns)
  generalize rowBy ns 3 (nodesOf ns) (cell ns 1 % 4) = row at L1 hro
  walk_at "s"
  refine ⟨a, ns, 1, rfl, L1.seq hS, ?_⟩
  walk_at "s"
  have e20 : (20 : Int) = ((20 : Nat) : Int) := rfl
  refine if_two (fun σ H' => ∃ pr row, σ = [some (.ref a), some (.ref pr), none, none, none, none, none, none, none, none, none] ∧ Led H H' [(pr, .lst (row.map V.int))] ∧ isRow row) ?_ ?_ ?_
  · rintro σ H2 ⟨pr, row, rfl, L2, hro⟩
    clear L1
    obtain ⟨hr1, hr2, hr3⟩ := id hro
    walk_at "s"
    refine lc_mapI (fun n => .int (min 60 (1 - n))) L2 (fun H1 _ _ l1 L => (L.drop1).sq 0) ?_ ?_
    · intro i n D H3 hi L3 t3
      have hlt := (List.getElem?_eq_some_iff.mp hi).1
      walk_at "s"
      refine ⟨rfl, ?_⟩
      walk_at "s"
      exact rd_mapIEnd [] L3 t3 hi (by omega) rfl
    intro pn H3 L3 _
    have em : row.map (fun n => V.int (min 60 (1 - n))) = (row.map fun n => min 60 (1 - n)).map V.int := by
      rw [List.map_map]
      rfl
    rw [em] at L3
    have hn : ∀ n ∈ row.map fun n => min 60 (1 - n), 0 ≤ n ∧ n ≤ 60 := fun n hn => by
      obtain ⟨m, h1, rfl⟩ := List.mem_map.mp hn
      have := hr3 m h1
      omega
    have hml : (row.map fun n => min 60 (1 - n)).length = row.length := List.length_map ..
    generalize (row.map fun n => min 60 (1 - n)) = ms at L3 hn hml
    rw [← hml] at hr1 hr2
    have hn0 : ∀ n ∈ ms, 0 ≤ n := fun n h => (hn n h).1
    have Lm := L3.only
    clear L3 L2 em
    have hmany := words_many hn0
    walk_at "s"
    refine rd_list Lm (Lm.sq 0) fun ph H4 L4 _ => ?_
    walk_at "s"
    refine ⟨ph, ms, rfl, L4.sq 0, by omega, fun pf H5 M5 => ?_⟩
    have L5 := L4.call M5
    rw [map_ints] at L5
    walk_at "s"
    refine rd_sum (L5.sq 2) ?_
    walk_at "s"
    rw [List.length_map, ← hmany]
    refine rd_neLs (L5.sq 1) (L5.sq 2) ?_
    walk_at "s"
    refine rd_isi (t := .type "list") (b := true) (.base (.lst (L5.get 0))) (kit_ty (by decide +kernel)) ?_
    walk_at "s"
    rw [List.length_map, List.length_map, decide_eq_true rfl]
    walk_at "s"
    refine lp_ints (ns := (wordsAt ms).map fun k : Nat => (k : Int)) (fun i σ H' => ∃ last y z, σ = [some (.ref a), some (.ref pr), some (.ref pn), some (.ref ph), some (.ref pf), some (.int (wordsAt ms).length), some (.int last), y, z, none, none] ∧
      Led H H' [(pf, .lst (((wordsAt ms).map fun k : Nat => (k : Int)).map V.int)), (ph, .lst (ms.map V.int)), (pn, .lst (ms.map V.int))] ∧ -1 ≤ last ∧ ∀ j k, i ≤ j → (wordsAt ms)[j]? = some k → last < k) ⟨-1, none, none, rfl, L5, by omega, fun j k _ _ => by omega⟩ (fun i σ H' _ ⟨_, _, _, _, L, _⟩ => L.sq 0) ?_ ?_
    · rintro i n σ H6 hi ⟨last, y, z, rfl, L6, hlast, hlt⟩
      rw [List.getElem?_map] at hi
      cases hc : (wordsAt ms)[i]? with
      | none => rw [hc] at hi; cases hi
      | some j =>
        rw [hc] at hi
        obtain rfl : n = (j : Int) := by simpa using hi.symm
        obtain ⟨hj, hw⟩ := mem_words.mp (List.mem_of_getElem? hc)
        have hok := (isWB_iff.mp hw).2
        walk_at "s"
        refine ⟨j, rfl, ?_⟩
        walk_at "s"
        have h1 := hlt i _ (Nat.le_refl _) hc
        refine ited (fun c => by omega) (fun _ => ?_)
        walk_at "s"
        rw [List.length_map]
        refine ited (fun c => by omega) (fun _ => ?_)
        walk_at "s"
        refine rd_slL L6 (L6.sq 2) fun p7 H7 L7 _ => ?_
        walk_at "s"
        refine rd_slL L7 (L7.sq 3) fun p8 H8 L8 _ => ?_
        refine rd_addL L8 (L8.get 1) (L8.get 0) (sz (m := 200) (by
          have := cutV_length (ms.map V.int) (some (j : Int)) none
          have := cutV_length (ms.map V.int) none (some (j : Int))
          rw [List.length_map] at *
          omega)) fun p9 H9 L9 _ => ?_
        rw [turn_cut] at L9
        walk_at "s"
        refine ⟨p9, turn ms j, rfl, L9.sq 0, fun H10 M10 => ?_⟩
        have L10 := L9.call M10
        rw [hw]
        walk_at "s"
        refine ⟨p9, turn ms j, rfl, L10.sq 0, by rw [turn_len]; omega, fun _ pb ys H11 M11 gb => ?_, fun h => absurd (hw.symm.trans h) (by decide)⟩
        have L11 := L10.call M11
        have e1 := gb.len
        have e2 := Gr.len_par _ hok
        rw [map_sum_one, turn_sum, turn_len] at e2
        walk_at "s"
        refine itedN (fun c => absurd (by omega) c) (fun _ => ?_)
        walk_at "s"
        refine ⟨j, _, _, rfl, L11.drop1 (m := [_, _, _, _]), by omega, fun m k hm' hk' => ?_⟩
        obtain ⟨b2, e2⟩ := List.getElem?_eq_some_iff.mp hc
        obtain ⟨b3, e3⟩ := List.getElem?_eq_some_iff.mp hk'
        have := List.pairwise_iff_getElem.mp (words_pairwise ms) i m b2 b3 (by omega)
        rw [e2, e3] at this
        omega
    · rintro σ H6 ⟨last, y, z, rfl, L6, _⟩
      walk_at "s"
      refine rd_revL1 L6 (L6.sq 2) fun p7 H7 L7 _ => ?_
      rw [← List.map_reverse] at L7
      refine rd_itL (L7.sq 0) ?_
      refine lc_mapI (fun n => .int (1 - n)) L7 (fun H1 _ _ l1 L => (L.drop1).sq 0) ?_ ?_
      · intro i n D H8 hi L8 t8
        have hlt := (List.getElem?_eq_some_iff.mp hi).1
        rw [List.length_reverse] at hlt
        walk_at "s"
        refine ⟨rfl, ?_⟩
        walk_at "s"
        exact rd_mapIEnd [] L8 t8 hi (by omega) rfl
      intro pd H8 L8 _
      have er : ms.reverse.map (fun n => V.int (1 - n)) = (rowOf ms).map V.int := by
        unfold rowOf
        rw [List.map_map]
        rfl
      rw [er] at L8
      have hrow : isRow (rowOf ms) := by
        refine ⟨by rw [rowOf_len]; omega, by rw [rowOf_len]; omega, fun n h => ?_⟩
        unfold rowOf at h
        obtain ⟨m, h1, rfl⟩ := List.mem_map.mp h
        have := hn m (List.mem_reverse.mp h1)
        omega
      walk_at "s"
      refine ⟨pd, rowOf ms, rfl, L8.sq 0, fun _ pt H9 M9 => ?_, fun h => absurd hrow h⟩
      have L9 := L8.call M9
      rw [map_ints] at L9
      walk_at "s"
      refine lc_mapI (fun k => .int ((ms.length - k) % ms.length)) L9 (fun H1 _ _ l1 L => (L.drop1).sq 0) ?_ ?_
      · intro i n D H10 hi L10 t10
        walk_at "s"
        refine ⟨rfl, ?_⟩
        walk_at "s"
        rw [List.length_map]
        refine rd_mod (by omega) ?_
        refine rd_mapIEnd [] L10 t10 hi ?_ rfl
        have := (List.getElem?_eq_some_iff.mp hi).1
        have h2 := List.length_filter_le (fun k => goodB (turn (rowOf ms) k)) (List.range (rowOf ms).length)
        rw [List.length_map] at this
        unfold startsOf at this
        rw [List.length_range, rowOf_len] at h2
        rw [rowOf_len] at this
        omega
      intro D H10 L10 _
      have e10 : ((startsOf (rowOf ms)).map fun k : Nat => (k : Int)).map (fun k => V.int ((ms.length - k) % ms.length)) = ((startsOf (rowOf ms)).map fun k : Nat => ((ms.length : Int) - k) % ms.length).map V.int := by
        rw [List.map_map, List.map_map]
        rfl
      rw [e10] at L10
      walk_at "s"
      refine rd_sorted L10 (L10.sq 0) fun ks p11 H11 hp hs L11 _ => ?_
      have es := words_sorted hn0 hp hs
      walk_at "s"
      refine rd_eqL (L11.sq 0) (L11.sq 5) ?_
      rw [es, decide_eq_true rfl]
      exact hq _
  · intro nx' hn c
    obtain ⟨hr1, hr2, hr3⟩ := id hro
    walk_at "s"
    rw [e20]
    refine rd_slL L1 (L1.sq 0) fun p2 H2 L2 _ => ?_
    walk_at "s"
    refine rd_slL L2 (L2.sq 1) fun p3 H3 L3 _ => ?_
    rw [cut_to] at L3
    refine rd_addL L3 (L3.get 1) (L3.get 0) (sz (m := 200) (by
      simp only [List.length_take, List.length_map]
      omega)) fun p4 H4 L4 _ => ?_
    walk_at "s"
    refine rd_slL L4 (L4.sq 3) fun p5 H5 L5 _ => ?_
    rw [cut_to] at L5
    refine rd_addL L5 (L5.get 1) (L5.get 0) (sz (m := 200) (by
      simp only [List.length_append, List.length_take, List.length_map]
      omega)) fun p6 H6 L6 _ => ?_
    walk_at "s"
    refine hn _ _ ⟨p6, _, rfl, L6.only.to ?_, thrice_row hro⟩
    rw [List.map_append, List.map_append, List.map_take]
  · intro nx' hn c
    walk_at "s"
    exact hn _ _ ⟨pr, row, rfl, L1, hro⟩
end Tr
/-! The head: the facts of the top, read by a Hook of my own. -/
namespace Tr
open PySem PySem.Spec PyProof.Rows L2
def excB (K : PySem.W.Frag) (x : Str) : Bool :=
  He.eqO (PySem.W.findIn K (.ref (He.ga K x)) "__getattribute__") (some (some (.builtin "BaseException.__getattribute__"))) &&
  (He.eqO (PySem.W.findIn K (.ref (He.ga K x)) "__getattr__") (some none) &&
  (decide (PySem.W.subIn K (.ref (He.ga K x)) (.type "BaseException") = some true) &&
  (PySem.W.hasDictIn K (He.ga K x) &&
  (He.eqO (PySem.W.findIn K (.ref (He.ga K x)) "__class__") (some (some (.builtin "object.__class__"))) &&
  (He.eqO (PySem.W.specialIn K (.builtin "object.__class__") "__get__") (some (some (.builtin "getset_descriptor.__get__"))) &&
  (decide (PySem.W.takesIn K (.builtin "object.__class__") = some true) &&
  decide (PySem.W.mroIn K (He.ga K x) (.type "object") = some true)))))))
theorem excB_ok {K : PySem.W.Frag} {x : Str} (h : excB K x = true) : ExcC K (He.ga K x) := by
  unfold excB at h
  obtain ⟨h1, h⟩ := He.ba h
  obtain ⟨h2, h⟩ := He.ba h
  obtain ⟨h3, h⟩ := He.ba h
  obtain ⟨h4, h⟩ := He.ba h
  obtain ⟨h5, h⟩ := He.ba h
  obtain ⟨h6, h⟩ := He.ba h
  obtain ⟨h7, h8⟩ := He.ba h
  exact ⟨He.eqO_ok h1, He.eqO_ok h2, of_decide_eq_true h3, h4, He.eqO_ok h5, He.eqO_ok h6, of_decide_eq_true h7, of_decide_eq_true h8⟩
def kitO (K : PySem.W.Frag) (x y : Str) (b : Bool) : Bool := decide (PySem.W.kitOne K (.ref (He.ga K x)) (.ref (He.ga K y)) = some b)
def kitT (K : PySem.W.Frag) (x : Str) (n : String) : Bool := decide (PySem.W.kitOne K (.ref (He.ga K x)) (.type n) = some true)
def hookZ (n : Nat) (fa : List He.Fa) (fn : List He.DefD) (ex : PySem.W.Frag → Bool) : PySem.W.Hook where
  α := He.AlD × Bool
  obs := fun s => (He.obsD fa fn (He.frG s.heap.get? (He.asD s.heap.get? n)), ex (He.frG s.heap.get? (He.asD s.heap.get? n)))
  val := fun _ => (He.valD fn, true)
  says := fun _ h => ∃ K : PySem.W.Frag, K.In h ∧ He.SaysD fa fn K ∧ ex K = true
  of := fun _ _ e => ⟨_, He.frG_in, congrArg (fun z : He.AlD × Bool => z.1) e, congrArg (fun z : He.AlD × Bool => z.2) e⟩
  keeps := fun _ _ _ ⟨K, hK, c⟩ k => ⟨K, PySem.W.Frag.In.keeps hK k, c⟩
def obZ (n : Nat) (fa : List He.Fa) (fn : List He.DefD) (ex : PySem.W.Frag → Bool) (g : Addr → Option Obj) : He.AlD × Bool := (He.obsD fa fn (He.frG g (He.asD g n)), ex (He.frG g (He.asD g n)))
theorem obZ_eq {n : Nat} {fa : List He.Fa} {fn : List He.DefD} {ex : PySem.W.Frag → Bool} {g : Addr → Option Obj} {s : Shared} (h : ∀ a, g a = s.heap.get? a) : obZ n fa fn ex g = (hookZ n fa fn ex).obs s := by
  have e : g = s.heap.get? := funext h
  rw [e] <;> rfl
theorem okZero {P : Program} {w : World} {K : PySem.W.Frag} {mg : Str → Option Value} {base : Heap} {k : Nat} {f : Addr} {fd : FuncData} {ps : List Str} {sp : Sp} (F : FnOk P w K mg base (L2.CX P w) k f fd ps sp) (hs : ∀ vs H Q E, sp vs H Q E → sp vs H Q E0) :
    FnOk P w K mg base CX0 k f fd ps sp := by
  refine ⟨F.len, fun A outer s H args us vs Q E hr he hb hv h => codeAny_mono (F.run A outer s H args us vs Q E0 hr he hb hv (hs _ _ _ _ h)) fun r s' q => ?_⟩
  cases r with
  | ok fl => cases fl <;> exact q
  | error e =>
    obtain ⟨_, _, _, _, _, _, _, _, _, _, _, _, z⟩ := q
    exact z
section
variable {K : PySem.W.Frag} {h : Heap} {mg : Str → Option Value}
theorem exT_of (X : K.In h) (G : h.Ns mainGlobals mg) {x : Str} (g : (He.Fa.glo x).ok K = true) (e : (He.Fa.exc x).ok K = true) : ExcT K mg x := by
  obtain ⟨h1, h2, h3, h4⟩ := He.exc_ok e
  exact ⟨He.glo_ok X G g, h1, h2, h3, h4⟩
theorem txt1_of (X : K.In h) (G : h.Ns mainGlobals mg) {x : Str} {st : Stmt} {ps : List Str} (F : ∃ fd, FunD K x x (defArgs st) (defBody st) (defScope st) [] [] (He.ga K x) fd) (g : (He.Fa.glo x).ok K = true)
    (hb : ∀ (kV doc pm : Value) (an : Option Addr) (cdv ct : Value) (us : List Value), us.length = ps.length → bindArgs (PySem.W.fnOf x x (defArgs st) (defBody st) (defScope st) .none kV doc pm an cdv ct) ⟨us, []⟩ = pure (ps.zip us)) : Txt1 K mg x st ps := by
  obtain ⟨fd, F⟩ := F
  exact ⟨⟨fd, F, F.bindsN hb⟩, He.glo_ok X G g⟩
end
end Tr
namespace Tr
open PySem PySem.Spec PyProof.Rows L2
def fnZ_0 : List He.DefD := [⟨("see_row", none), "see_row", "see_row", defArgs s_see_row, defBody s_see_row, defScope s_see_row, [], []⟩, ⟨("sums_of", none), "sums_of", "sums_of", defArgs s_sums_of, defBody s_sums_of, defScope s_sums_of, [], []⟩, ⟨("is_good", none), "is_good", "is_good", defArgs s_is_good, defBody s_is_good, defScope s_is_good, [], []⟩, ⟨("starts", none), "starts", "starts", defArgs s_starts, defBody s_starts, defScope s_starts, [], []⟩, ⟨("is_word", none), "is_word", "is_word", defArgs s_is_word, defBody s_is_word, defScope s_is_word, [], []⟩, ⟨("see_word", none), "see_word", "see_word", defArgs s_see_word, defBody s_see_word, defScope s_see_word, [], []⟩, ⟨("grove_of", none), "grove_of", "grove_of", defArgs s_grove_of, defBody s_grove_of, defScope s_grove_of, [], []⟩, ⟨("words_among", none), "words_among", "words_among", defArgs s_words_among, defBody s_words_among, defScope s_words_among, [], []⟩, ⟨("_law_cell_at", none), "_law_cell_at", "_law_cell_at", defArgs s_law_cell_at, defBody s_law_cell_at, defScope s_law_cell_at, [], []⟩, ⟨("_law_whole", none), "_law_whole", "_law_whole", defArgs s_law_whole, defBody s_law_whole, defScope s_law_whole, [], []⟩, ⟨("_law_row_by", none), "_law_row_by", "_law_row_by", defArgs s_law_row_by, defBody s_law_row_by, defScope s_law_row_by, [], []⟩, ⟨("_law_nodes", none), "_law_nodes", "_law_nodes", defArgs s_law_nodes, defBody s_law_nodes, defScope s_law_nodes, [], []⟩, ⟨("_law_is_word", none), "_law_is_word", "_law_is_word", defArgs s_law_is_word, defBody s_law_is_word, defScope s_law_is_word, [], []⟩, ⟨("law", none), "law", "law", defArgs s_law, defBody s_law, defScope s_law, [], []⟩]
def fnZ : List He.DefD := fnZ_0
def faZ_0 : List He.Fa := [.glo "see_row", .glo "sums_of", .glo "is_good", .glo "starts", .glo "is_word", .glo "see_word", .glo "grove_of", .glo "words_among", .glo "_law_cell_at", .glo "_law_whole", .glo "_law_row_by", .glo "_law_nodes", .glo "_law_is_word", .glo "law", .free "bool", .free "int"]
def faZ_1 : List He.Fa := [.free "isinstance", .free "len", .free "list", .free "max", .free "min", .free "range", .free "reversed", .free "sorted", .free "sum", .free "tuple", .int "MOST" 60, .glo "TurnError", .glo "BadRow", .glo "NoWord", .exc "TurnError", .exc "BadRow"]
def faZ_2 : List He.Fa := [.exc "NoWord"]
def faZ : List He.Fa := faZ_0 ++ faZ_1 ++ faZ_2
def exL (K : PySem.W.Frag) : List Bool := []
def exZ (K : PySem.W.Frag) : Bool := (exL K).all id
abbrev RZ : PySem.W.OpenRow := PySem.W.OpenLaw.row PySem.Challenge.rw_turnrow_k07_whole_turns_that_are_words
abbrev hkZ : PySem.W.Hook := hookZ 5 faZ fnZ exZ
def obsZ (s : PySem.W.SharedT) : He.AlD × Bool := obZ 5 faZ fnZ exZ (HandSHeadRun.getT s)
theorem obsZ_eq (s : PySem.W.SharedT) : obsZ s = hkZ.obs s.abs := obZ_eq (HandSHeadRun.getT_eq s)
def looseZ_0 : List Str := ["see_row", "sums_of", "is_good", "starts", "is_word", "see_word", "grove_of", "words_among", "_law_cell_at", "_law_whole", "_law_row_by", "_law_nodes", "_law_is_word", "TurnError", "BadRow", "NoWord"]
def looseZ_1 : List Str := ["MOST"]
def looseZ : List Str := looseZ_0 ++ looseZ_1
theorem runZ (w : World) : HandSHeadRun.RunEq RZ (PySem.W.view RZ.prog [21]) hkZ obsZ 6000 looseZ w := by
  intro os
  kernel_rfl
theorem factsZ {P : Program} {w : World} {K : PySem.W.Frag} {h : Heap} {mg : Str → Option Value} {f : Addr} (X : K.In h) (G : h.Ns mainGlobals mg) (hfa : mg ("law" : Str) = some (.ref f)) (c : He.SaysD faZ fnZ K) (e : exZ K = true) :
    ∃ fd : FuncData, (∀ (s : Shared) (v : Value), BindsTo s fd ⟨[v], []⟩ [("script", v)]) ∧ ∀ base : Heap, K.In base → base.Ns mainGlobals mg → FnOk P w K mg base CX0 6 f fd ["script"] (sp_law K) := by
  have el : ∀ i b, (exL K)[i]? = some b → b = true := fun i b hb => List.all_eq_true.mp e b (List.mem_of_getElem? hb)
  have T : Txt K mg := {
    f_see_row := txt1_of X G (c.def_ 0 rfl) (c.fact 0 rfl) (fun _ _ _ _ _ _ us hl => match us, hl with | [_], _ => rfl)
    f_sums_of := txt1_of X G (c.def_ 1 rfl) (c.fact 1 rfl) (fun _ _ _ _ _ _ us hl => match us, hl with | [_], _ => rfl)
    f_is_good := txt1_of X G (c.def_ 2 rfl) (c.fact 2 rfl) (fun _ _ _ _ _ _ us hl => match us, hl with | [_], _ => rfl)
    f_starts := txt1_of X G (c.def_ 3 rfl) (c.fact 3 rfl) (fun _ _ _ _ _ _ us hl => match us, hl with | [_], _ => rfl)
    f_is_word := txt1_of X G (c.def_ 4 rfl) (c.fact 4 rfl) (fun _ _ _ _ _ _ us hl => match us, hl with | [_], _ => rfl)
    f_see_word := txt1_of X G (c.def_ 5 rfl) (c.fact 5 rfl) (fun _ _ _ _ _ _ us hl => match us, hl with | [_], _ => rfl)
    f_grove_of := txt1_of X G (c.def_ 6 rfl) (c.fact 6 rfl) (fun _ _ _ _ _ _ us hl => match us, hl with | [_], _ => rfl)
    f_words_among := txt1_of X G (c.def_ 7 rfl) (c.fact 7 rfl) (fun _ _ _ _ _ _ us hl => match us, hl with | [_], _ => rfl)
    f_law_cell_at := txt1_of X G (c.def_ 8 rfl) (c.fact 8 rfl) (fun _ _ _ _ _ _ us hl => match us, hl with | [_, _], _ => rfl)
    f_law_whole := txt1_of X G (c.def_ 9 rfl) (c.fact 9 rfl) (fun _ _ _ _ _ _ us hl => match us, hl with | [_], _ => rfl)
    f_law_row_by := txt1_of X G (c.def_ 10 rfl) (c.fact 10 rfl) (fun _ _ _ _ _ _ us hl => match us, hl with | [_, _, _, _], _ => rfl)
    f_law_nodes := txt1_of X G (c.def_ 11 rfl) (c.fact 11 rfl) (fun _ _ _ _ _ _ us hl => match us, hl with | [_], _ => rfl)
    f_law_is_word := txt1_of X G (c.def_ 12 rfl) (c.fact 12 rfl) (fun _ _ _ _ _ _ us hl => match us, hl with | [_], _ => rfl)
    f_law := txt1_of X G (c.def_ 13 rfl) (c.fact 13 rfl) (fun _ _ _ _ _ _ us hl => match us, hl with | [_], _ => rfl)
    m_bool := He.free_ok X G (c.fact 14 rfl)
    m_int := He.free_ok X G (c.fact 15 rfl)
    m_isinstance := He.free_ok X G (c.fact 16 rfl)
    m_len := He.free_ok X G (c.fact 17 rfl)
    m_list := He.free_ok X G (c.fact 18 rfl)
    m_max := He.free_ok X G (c.fact 19 rfl)
    m_min := He.free_ok X G (c.fact 20 rfl)
    m_range := He.free_ok X G (c.fact 21 rfl)
    m_reversed := He.free_ok X G (c.fact 22 rfl)
    m_sorted := He.free_ok X G (c.fact 23 rfl)
    m_sum := He.free_ok X G (c.fact 24 rfl)
    m_tuple := He.free_ok X G (c.fact 25 rfl)
    c_MOST := He.int_ok X G (c.fact 26 rfl)
    e_TurnError := exT_of X G (c.fact 27 rfl) (c.fact 30 rfl)
    e_BadRow := exT_of X G (c.fact 28 rfl) (c.fact 31 rfl)
    e_NoWord := exT_of X G (c.fact 29 rfl) (c.fact 32 rfl)
  }
  obtain ⟨fd, F⟩ := c.def_ 13 rfl
  have e2 := hfa.symm.trans (He.glo_ok X G (c.fact 13 rfl))
  cases e2
  have b := FunD.bindsA (ps := ["script"]) F fun _ _ _ _ _ _ us hl => match us, hl with | [_], _ => rfl
  refine ⟨fd, fun s v => b s [v] rfl, fun base _ _ => ?_⟩
  obtain ⟨⟨fd2, F2, _, hf⟩, _, _⟩ := ok_law (P := P) (w := w) (base := base) T
  obtain ⟨oc, od, _, _, _, _, _, _, _, osl, _, lk, _⟩ := id F.ex
  have e3 : fd2 = fd := hf.same ⟨oc, od, osl, lk⟩
  subst e3
  exact okZero F2 fun vs H Q E h => h
end Tr
open PySem PySem.W PySem.Calls PyProof.Rows
theorem PySem.Challenge.cw_turnrow_k07_whole_turns_that_are_words_holds : PySem.Challenge.rw_turnrow_k07_whole_turns_that_are_words.Holds := by
  w_on; o_law
  refine HandSHeadRun.head_any (r := OpenLaw.row PySem.Challenge.rw_turnrow_k07_whole_turns_that_are_words) (q := view (OpenLaw.row PySem.Challenge.rw_turnrow_k07_whole_turns_that_are_words).prog [21]) (H := Tr.hkZ) (ob := Tr.obsZ) (M := 6000) (loose := Tr.looseZ) (d := HandSHeadRun.topDef (OpenLaw.row PySem.Challenge.rw_turnrow_k07_whole_turns_that_are_words).prog 21) (kwd := []) Tr.obsZ_eq
    (by kernel_rfl) (fun s => by kernel_rfl) Tr.runZ (by kernel_rfl) (by kernel_rfl) (by kernel_rfl) (by rfl) (by first | assumption | decide +kernel) (by decide +kernel) ⟨rfl, rfl, rfl, rfl, rfl, by decide +kernel⟩ ?hw ?hc
  case hw => w_witness2
  case hc =>
    refine L2.walk_ofE (l := PySem.Challenge.rw_turnrow_k07_whole_turns_that_are_words) (n := 63) (k := 6) (x := "script") (CX := L2.CX0) rfl (by decide) (by kernel_rfl) ⟨rfl, by decide, by decide⟩ ?F (fun _ _ _ _ z => z)
    intro w mg fa h Y G hmg0
    obtain ⟨K, KX, c, e⟩ := Y
    have hmg : mg ("law" : PySem.Str) = some (.ref fa) := by
      have e : (HandSHeadRun.topDef (OpenLaw.row PySem.Challenge.rw_turnrow_k07_whole_turns_that_are_words).prog 21).name = ("law" : PySem.Str) := by kernel_rfl
      rw [← e]
      exact hmg0
    obtain ⟨fd, hb, hF⟩ := Tr.factsZ (P := (PySem.Challenge.rw_turnrow_k07_whole_turns_that_are_words).prog) (w := w) KX G hmg c e
    exact ⟨K, fd, Tr.sp_law K, KX, hb, fun H a ns hl _ hS => ⟨a, ns, rfl, hS, hl, fun _ => rfl⟩, hF⟩
#print axioms PySem.Challenge.cw_turnrow_k07_whole_turns_that_are_words_holds
