import PyProof.Rows.All
import Wide.All
import OpenK.AllK
import Wide.FinOn
import KE.KStateDown
import HandS.ForMost
import HandS.ForExc
import HandS.More
import HandS.Conv
import HandS.IsInst
import HandS.ExcIs
import HandS.Rev
import HandS.Style
import HandS.SortInts
import HandS.SetFor
import HandS.Wide
import HandS.TupLe
import HandS.Defaults
import HandS.Head0
import HandS.Head1
import HandS.Head2
import HandS.HeadEnd
import HandS.HeadHook1
import HandS.HeadHook2
import PySem.Challenge.RW_turnrow_k09_how_many_words
set_option Elab.async false
set_option linter.all false
set_option maxRecDepth 100000
set_option maxHeartbeats 4000000
/-! The ledger: what stands at the addresses that a def has made; the rest of the heap as it was. -/
namespace Tr
open PySem PySem.Spec PyProof.Rows L2

structure Led (H0 H : Hp) (l : List (Addr × HO)) : Prop where
  same : Same H0 H
  nd : (l.map (·.1)).Nodup
  new : ∀ p ∈ l, H0 p.1 = none
  has : ∀ p ∈ l, H p.1 = some p.2
/-- the tuples stay -/
def Ts (H H' : Hp) : Prop := ∀ b xs, H b = some (.tup xs) → H' b = some (.tup xs)
theorem Ts.refl (H : Hp) : Ts H H := fun _ _ h => h
theorem Ts.trans {A B C : Hp} (a : Ts A B) (b : Ts B C) : Ts A C := fun c xs h => b c xs (a c xs h)
theorem Ts.of {A B : Hp} (h : Same A B) : Ts A B := fun b xs e => h b _ e
theorem Same.push {H : Hp} {p : Addr} {o : HO} (h : H p = none) : Same H (upd H p o) := fun b x e => by
  rw [upd_ne (ne_of_none e h)]
  exact e
theorem Ts.put {H : Hp} {p : Addr} {xs : List V} {o : HO} (h : H p = some (.lst xs)) : Ts H (upd H p o) := fun b ys e => by
  have n : b ≠ p := fun z => by
    subst z
    rw [h] at e
    cases e
  rw [upd_ne n]
  exact e
section
variable {H0 H H' : Hp} {l m : List (Addr × HO)} {p q : Addr} {o o' : HO}
theorem Led.start (H : Hp) : Led H H [] := ⟨Same.refl H, by simp, by simp, by simp⟩
theorem Led.get (L : Led H0 H l) (i : Nat) (h : l[i]? = some (p, o) := by rfl) : H p = some o := L.has (p, o) (List.mem_of_getElem? h)
theorem Led.new' (L : Led H0 H l) (i : Nat) (h : l[i]? = some (p, o) := by rfl) : H0 p = none := L.new (p, o) (List.mem_of_getElem? h)
theorem Led.sq {K : PySem.W.Frag} {xs : List V} (L : Led H0 H l) (i : Nat) (h : l[i]? = some (p, .lst xs) := by rfl) : SqL K H p xs := SqL.of (L.get i h)
theorem Led.tq {K : PySem.W.Frag} {xs : List V} (L : Led H0 H l) (i : Nat) (h : l[i]? = some (p, .tup xs) := by rfl) : SqT K H p xs := SqT.of (L.get i h)
theorem Led.fresh (L : Led H0 H l) (h : H q = none) : q ∉ l.map (·.1) := fun z => by
  obtain ⟨x, hx, e⟩ := List.mem_map.mp z
  have := L.has x hx
  rw [e, h] at this
  cases this
theorem Led.push (L : Led H0 H l) (h : H p = none) : Led H0 (upd H p o) ((p, o) :: l) := by
  have h0 : H0 p = none := L.same.free h
  refine ⟨L.same.trans (Same.push h), ?_, ?_, ?_⟩
  · rw [List.map_cons, List.nodup_cons]
    exact ⟨L.fresh h, L.nd⟩
  · intro x hx
    rcases List.mem_cons.mp hx with rfl | hx
    · exact h0
    · exact L.new x hx
  · intro x hx
    rcases List.mem_cons.mp hx with rfl | hx
    · exact upd_same
    · have e := L.has x hx
      rw [upd_ne (ne_of_none e h)]
      exact e
theorem nodup_at {α β : Type} {l : List (α × β)} {i j : Nat} {a : α} {x y : β} (hn : (l.map (·.1)).Nodup) (h1 : l[i]? = some (a, x)) (h2 : l[j]? = some (a, y)) : i = j := by
  have e1 : (l.map (·.1))[i]? = some a := by rw [List.getElem?_map, h1]; rfl
  have e2 : (l.map (·.1))[j]? = some a := by rw [List.getElem?_map, h2]; rfl
  exact nodup_ix' hn e1 e2
where
  nodup_ix' {α : Type} {N : List α} (hN : N.Nodup) {i j : Nat} {x : α} (a : N[i]? = some x) (b : N[j]? = some x) : i = j := by
    obtain ⟨h1, e1⟩ := List.getElem?_eq_some_iff.mp a
    obtain ⟨h2, e2⟩ := List.getElem?_eq_some_iff.mp b
    exact (List.getElem_inj hN).mp (e1.trans e2.symm)
theorem Led.put (L : Led H0 H l) (i : Nat) (h : l[i]? = some (p, o)) : Led H0 (upd H p o') (l.set i (p, o')) := by
  have hp0 : H0 p = none := L.new' i h
  have hi : i < l.length := (List.getElem?_eq_some_iff.mp h).1
  have ek : (l.set i (p, o')).map (·.1) = l.map (·.1) := by
    apply List.ext_getElem?
    intro j
    rw [List.getElem?_map, List.getElem?_map, List.getElem?_set]
    by_cases e : i = j
    · subst e
      rw [if_pos rfl, if_pos hi, h]
      rfl
    · rw [if_neg e]
  refine ⟨fun b x e => ?_, ?_, ?_, ?_⟩
  · have n : b ≠ p := fun z => by
      subst z
      rw [hp0] at e
      cases e
    rw [upd_ne n]
    exact L.same b x e
  · rw [ek]
    exact L.nd
  · intro x hx
    rcases List.mem_or_eq_of_mem_set hx with hx | rfl
    · exact L.new x hx
    · exact hp0
  · intro x hx
    obtain ⟨j, hj⟩ := List.mem_iff_getElem?.mp hx
    rw [List.getElem?_set] at hj
    by_cases e : i = j
    · subst e
      rw [if_pos rfl, if_pos hi] at hj
      cases hj
      exact upd_same
    · rw [if_neg e] at hj
      have hx2 := L.get (p := x.1) (o := x.2) j hj
      have n : x.1 ≠ p := fun z => by
        have hj' : l[j]? = some (p, x.2) := by rw [hj, ← z]
        exact e (nodup_at L.nd h hj')
      rw [upd_ne n]
      exact hx2
theorem Led.call (L : Led H0 H l) (M : Led H H' m) : Led H0 H' (m ++ l) := by
  refine ⟨L.same.trans M.same, ?_, ?_, ?_⟩
  · rw [List.map_append, List.nodup_append]
    refine ⟨M.nd, L.nd, ?_⟩
    intro a ha b hb e
    subst e
    obtain ⟨x, hx, rfl⟩ := List.mem_map.mp ha
    obtain ⟨y, hy, e⟩ := List.mem_map.mp hb
    have e1 := M.new x hx
    have e2 := L.has y hy
    rw [e, e1] at e2
    cases e2
  · intro x hx
    rcases List.mem_append.mp hx with hx | hx
    · exact L.same.free (M.new x hx)
    · exact L.new x hx
  · intro x hx
    rcases List.mem_append.mp hx with hx | hx
    · exact M.has x hx
    · exact M.same _ _ (L.has x hx)
theorem Led.sub (L : Led H0 H l) (h : m.Sublist l) : Led H0 H m :=
  ⟨L.same, L.nd.sublist (h.map _), fun p hp => L.new p (h.mem hp), fun p hp => L.has p (h.mem hp)⟩
theorem Led.drop1 (L : Led H0 H (m ++ l)) : Led H0 H l := L.sub (List.sublist_append_right m l)
theorem Led.tail {x : Addr × HO} (L : Led H0 H (x :: l)) : Led H0 H l := L.sub (List.sublist_cons_self x l)
theorem Led.perm (L : Led H0 H l) (h : m.Perm l) : Led H0 H m :=
  ⟨L.same, (h.map _).nodup_iff.mpr L.nd, fun p hp => L.new p (h.mem_iff.mp hp), fun p hp => L.has p (h.mem_iff.mp hp)⟩
theorem Led.to (L : Led H0 H l) (e : l = m) : Led H0 H m := e ▸ L
theorem Led.ne (L : Led H0 H l) (hp : H0 p ≠ none) (i : Nat) (h : l[i]? = some (q, o)) : p ≠ q := fun z => by
  subst z
  exact hp (L.new' i h)
theorem Led.seq {K : PySem.W.Frag} {a : Addr} {xs : List V} (L : Led H0 H l) (h : SqL K H0 a xs) : SqL K H a xs := L.same.seq h
theorem Led.ts (L : Led H0 H l) : Ts H0 H := Ts.of L.same
end
theorem sz {n m : Nat} (h : n ≤ m) (hm : m ≤ 1000000 := by omega) : n ≤ sizeLine := by
  rw [sizeLine_eq]
  omega
theorem szl {n m : Nat} (h : n ≤ m) (hm : m ≤ 1000000 := by omega) : n < sizeLine := by
  rw [sizeLine_eq]
  omega

/-! ### a def by its name -/
/-- the function object of a name -/
def HasFd (K : PySem.W.Frag) (x : Str) (fd : FuncData) : Prop := ∃ oc od osl, K.lookup (He.ga K x) = some ⟨oc, od, .func fd, osl⟩
theorem HasFd.same {K : PySem.W.Frag} {x : Str} {fd fd' : FuncData} (h : HasFd K x fd) (h' : HasFd K x fd') : fd = fd' := by
  obtain ⟨a, b, c, e⟩ := h
  obtain ⟨a', b', c', e'⟩ := h'
  rw [e] at e'
  cases e'
  rfl
structure Fn (P : Program) (w : World) (K : PySem.W.Frag) (mg : Str → Option Value) (base : Heap) (CX : CXT) (k : Nat) (x : Str) (ps : List Str) (sp : Sp) : Prop where
  ex : ∃ fd, FnOk P w K mg base CX k (He.ga K x) fd ps sp ∧ Binds K fd ps [] ∧ HasFd K x fd
  gl : mg x = some (.ref (He.ga K x))
  kp : PySem.W.keepIn K (.ref (He.ga K x)) = true
theorem Fn.mono {P : Program} {w : World} {K : PySem.W.Frag} {mg : Str → Option Value} {base : Heap} {CX : CXT} {j k : Nat} {x : Str} {ps : List Str} {sp : Sp} (F : Fn P w K mg base CX j x ps sp) (h : j ≤ k) : Fn P w K mg base CX k x ps sp := by
  obtain ⟨⟨fd, a, b, e⟩, c, d⟩ := F
  exact ⟨⟨fd, a.mono h, b, e⟩, c, d⟩
/-- a def of the text -/
structure Txt1 (K : PySem.W.Frag) (mg : Str → Option Value) (x : Str) (st : Stmt) (ps : List Str) : Prop where
  ex : ∃ fd, FunD K x x (defArgs st) (defBody st) (defScope st) [] [] (He.ga K x) fd ∧ Binds K fd ps []
  gl : mg x = some (.ref (He.ga K x))
theorem fnOf1 {P : Program} {w : World} {K : PySem.W.Frag} {mg : Str → Option Value} {base : Heap} {CX : CXT} {k : Nat} {x : Str} {st : Stmt} {N ps : List Str} {sp : Sp} (F : Txt1 K mg x st ps) (S : FnScope N ps (defScope st)) (len : ∀ vs H Q E, sp vs H Q E → vs.length = ps.length)
    (hbody : ∀ (f : Addr) (cdv : Value) (A : Around) (outer : List Env) (s : Shared) (H : Hp) (vs : List V) (Q : VK) (E : XK), Room k (A.deeper (envOfC x (defScope st) s.heap.objs.size f cdv)) → sp vs H Q E →
      ∃ t, PSs (cxOf CX P w K mg base N x (defScope st) f cdv A outer s H E) (defBody st) t ∧ t { nx := fun _ H' => Q .non H', rt := Q } (start N vs) H) : Fn P w K mg base CX (k + 1) x ps sp := by
  obtain ⟨⟨fd, F1, b⟩, g⟩ := F
  obtain ⟨oc, od, _, _, _, _, _, _, _, osl, _, lk, _⟩ := id F1.ex
  exact ⟨⟨fd, F1.ok S len fun cdv A outer s H vs Q E hr h => hbody _ cdv A outer s H vs Q E hr h, b, oc, od, osl, lk⟩, g, F1.kp⟩
def tCallF (sp : Sp) (E : XK) (t : TA) : TE := fun σ H Q => t σ H fun vs H1 => sp vs H1 Q E
section
variable {X : Cx} {CX : CXT} {k : Nat} {ps : List Str} {sp : Sp} {E : XK} {x : Str} {p pos : Pos} {e : Expr} {es : List Expr} {t : TA}
theorem pe_callF (F : Fn X.prog X.w X.K X.mg X.base CX k x ps sp) (hr : Room k X.A) (hg : Gl X x) (hx : Passes CX X E) (ha : PA X (e :: es) t) (hdb : (x == ("__debug__" : Str)) = false := by decide)
    (he : starEach (e :: es) X.env = (false, eval e X.env) :: starEach es X.env := by rfl) (hpl : (backTo pos (starEach es X.env)).any (·.1) = false := by rfl) : PE X (.Call (.Name x p) (e :: es) [] pos) (tCallF sp E t) := by
  obtain ⟨⟨fd, a, b, _⟩, c, d⟩ := F
  have h := pe_call (p := p) (pos := pos) a hr hg c d b .nil hx ha hdb he hpl
  refine ⟨fun pins s σ H Q I q => h.run pins s σ H Q I ?_⟩
  have q' : t σ H fun vs H1 => sp vs H1 Q E := q
  show t σ H fun vs H1 => sp (vs ++ []) H1 Q E
  simpa only [List.append_nil] using q'
def tCallG (sp : Sp) (E : L2.St → XK) (t : TA) : TE := fun σ H Q => t σ H fun vs H1 => sp vs H1 Q (E σ)
theorem pe_callG {E : L2.St → XK} (F : Fn X.prog X.w X.K X.mg X.base CX k x ps sp) (hr : Room k X.A) (hg : Gl X x) (hx : ∀ σ, PassesAt CX X σ (E σ)) (ha : PA X (e :: es) t) (hdb : (x == ("__debug__" : Str)) = false := by decide)
    (he : starEach (e :: es) X.env = (false, eval e X.env) :: starEach es X.env := by rfl) (hpl : (backTo pos (starEach es X.env)).any (·.1) = false := by rfl) : PE X (.Call (.Name x p) (e :: es) [] pos) (tCallG sp E t) := by
  obtain ⟨⟨fd, a, b, _⟩, c, d⟩ := F
  have h := pe_callS (p := p) (pos := pos) (E := E) a hr hg c d b hx ha hdb he hpl
  exact ⟨fun pins s σ H Q I q => h.run pins s σ H Q I q⟩
end
end Tr
/-! The readings, step by step. -/
namespace Tr
open PySem PySem.Spec PyProof.Rows L2
section
variable {t u : TS} {te ta tb : TE} {D : Ends} {σ : L2.St} {H : Hp} {Q : VK} {g : TG} {i : Nat} {v x y : V} {c d : TT} {QB : Bool → Hp → Prop} {K : PySem.W.Frag}
theorem rd_seq (h : t { D with nx := u D } σ H) : tSeq t u D σ H := h
theorem rd_next (h : D.nx σ H) : tNext D σ H := h
theorem rd_brk (h : D.bk σ H) : tBreak D σ H := h
theorem rd_asg (h : te σ H fun x H1 => g x σ H1 D.nx) : tAsg te g D σ H := h
theorem rd_drop (h : te σ H fun _ H1 => D.nx σ H1) : tDrop te D σ H := h
theorem rd_ret (h : te σ H D.rt) : tRet te D σ H := h
theorem rd_retN (h : D.rt .non H) : tRetN D σ H := h
theorem rd_name {R : L2.St → Hp → Prop} (h : R (σ.set i (some v)) H) : gName i v σ H R := h
theorem rd_ifS (h : c σ H fun b H1 => if b = true then t D σ H1 else u D σ H1) : tIfS c t u D σ H := h
/-- a truth value that a test asks for -/
def isB (x : V) (p : Bool → Prop) : Prop := ∃ k, x = .bl k ∧ p k
theorem rd_isB {b : Bool} {p : Bool → Prop} (h : p b) : isB (.bl b) p := ⟨b, rfl, h⟩
theorem rd_test (h : te σ H fun x H1 => isB x fun k => QB k H1) : tTest te σ H QB := h
theorem rd_testB (h : te σ H fun x H1 => isB x fun k => QB k H1) : tB te σ H QB := h
theorem rd_and (h : c σ H fun b H1 => if b = true then d σ H1 QB else QB false H1) : tAnd c d σ H QB := h
theorem rd_or (h : c σ H fun b H1 => if b = true then QB true H1 else d σ H1 QB) : tOr c d σ H QB := h
theorem rd_not (h : c σ H fun b H1 => QB (!b) H1) : tNot c σ H QB := h
theorem rd_andV (h : ta σ H fun x H1 => isB x fun b => if b = true then tb σ H1 Q else Q (.bl false) H1) : tAndV ta tb σ H Q := h
theorem rd_orV (h : ta σ H fun x H1 => isB x fun b => if b = true then Q (.bl true) H1 else tb σ H1 Q) : tOrV ta tb σ H Q := h
theorem rd_notV (h : ta σ H fun x H1 => isB x fun b => Q (.bl (!b)) H1) : tNotV ta σ H Q := h
theorem rd_var (h : σ[i]? = some (some v)) (q : Q v H) : tVar i σ H Q := ⟨v, h, q⟩
theorem rd_c (q : Q v H) : tC v σ H Q := q
theorem rd_op {r : R2} (h : ta σ H fun x H1 => tb σ H1 fun y H2 => r x y H2 Q) : tOp r ta tb σ H Q := h
theorem rd_un {r : V → Hp → VK → Prop} (h : ta σ H fun x H1 => r x H1 Q) : tUn r ta σ H Q := h
variable {tA tR : TA} {QA : List V → Hp → Prop} {sp : Sp} {E : XK} {r : List V → Hp → VK → Prop}
theorem rd_nil (h : QA [] H) : tNil σ H QA := h
theorem rd_cons (h : te σ H fun x H1 => tR σ H1 fun xs H2 => QA (x :: xs) H2) : tCons te tR σ H QA := h
theorem rd_call (h : tA σ H fun vs H1 => sp vs H1 Q E) : tCallF sp E tA σ H Q := h
theorem rd_callG {E : L2.St → XK} (h : tA σ H fun vs H1 => sp vs H1 Q (E σ)) : tCallG sp E tA σ H Q := h
theorem rd_CB (h : tA σ H fun vs H1 => r vs H1 Q) : tCB r tA σ H Q := h
theorem rd_BM {T : String} {r : V → List V → Hp → VK → Prop} (h : te σ H fun x H1 => tyV K T x H1 ∧ tA σ H1 fun xs H2 => r x xs H2 Q) : tBM K T r te tA σ H Q := h
theorem rd_BM0 {T : String} {r : V → List V → Hp → VK → Prop} (h : te σ H fun x H1 => tyV K T x H1 ∧ r x [] H1 Q) : tBM0 K T r te σ H Q := h
theorem rd_ty {a : Addr} {xs : List V} {p : Prop} (h : SqL K H a xs) (q : p) : tyV K "list" (.ref a) H ∧ p := ⟨.inl ⟨rfl, _, h⟩, q⟩
theorem rd_tyS {z : Str} {p : Prop} (q : p) : tyV K "str" (.str z) H ∧ p := ⟨rfl, q⟩
theorem rd_sl {r : V → Option Int → Option Int → Hp → VK → Prop} {tl th : TO} (h : te σ H fun x H1 => tl σ H1 fun l H2 => th σ H2 fun u H3 => r x l u H3 Q) : tSl r te tl th σ H Q := h
theorem rd_noP {QO : Option Int → Hp → Prop} (h : QO none H) : tNoPart σ H QO := h
/-- an int that is asked for -/
def isI (x : V) (p : Int → Prop) : Prop := ∃ k, x = .int k ∧ p k
theorem rd_isI {n : Int} {p : Int → Prop} (h : p n) : isI (.int n) p := ⟨n, rfl, h⟩
theorem rd_part {QO : Option Int → Hp → Prop} (h : te σ H fun x H1 => isI x fun n => QO (some n) H1) : tPart te σ H QO := h
/-! ### values -/
theorem rd_i0 {f : Int → Int → V} {n m : Int} (q : Q (f n m) H) : rI0 f (.int n) (.int m) H Q := ⟨n, m, rfl, rfl, q⟩
theorem rd_i {C : Int → Int → Prop} {f : Int → Int → V} {n m : Int} (hc : C n m) (q : Q (f n m) H) : rI C f (.int n) (.int m) H Q := ⟨n, m, rfl, rfl, hc, q⟩
theorem rd_u {f : Int → V} {n : Int} (q : Q (f n) H) : rU f (.int n) H Q := ⟨n, rfl, q⟩
end

/-! ### + : ints, lists, texts -/
def rAddS : R2 := fun x y H Q => ∃ i j, x = .str i ∧ y = .str j ∧ i.length + j.length ≤ sizeLine ∧ Q (.str (i ++ j)) H
def gAdd : R2 := fun x y H Q => rI0 (fun i j => .int (i + j)) x y H Q ∨ rCat x y H Q ∨ rAddS x y H Q
theorem op_gAdd {X : Cx} : OpR X (binaryOp .Add) gAdd := op_add.or (op_cat.or (r' := rAddS) op_add_str)
def gSub : R2 := rI0 fun i j => .int (i - j)
theorem op_gSub {X : Cx} : OpR X (binaryOp .Sub) gSub := op_sub
def gMul : R2 := rI IntMulOk fun i j => .int (i * j)
theorem op_gMul {X : Cx} : OpR X (binaryOp .Mult) gMul := opI fun _ _ _ _ _ _ _ hc q => mul_int q hc
def gDiv : R2 := rI CDivW fun i j => .int (i / j)
theorem op_gDiv {X : Cx} : OpR X (binaryOp .FloorDiv) gDiv := op_fdivW
def gMod : R2 := rI (fun _ j => 0 < j) fun i j => .int (i % j)
theorem op_gMod {X : Cx} : OpR X (binaryOp .Mod) gMod := op_mod
def gLt : R2 := rI0 fun i j => .bl (decide (i < j))
theorem op_gLt {X : Cx} : OpR X (compareOp .Lt) gLt := op_lt
def gLe : R2 := rI0 fun i j => .bl (decide (i ≤ j))
theorem op_gLe {X : Cx} : OpR X (compareOp .LtE) gLe := op_le
def gGt : R2 := rI0 fun i j => .bl (decide (j < i))
theorem op_gGt {X : Cx} : OpR X (compareOp .Gt) gGt := op_gt
def gGe : R2 := rI0 fun i j => .bl (decide (j ≤ i))
theorem op_gGe {X : Cx} : OpR X (compareOp .GtE) gGe := op_ge
def gEq (K : PySem.W.Frag) : R2 := fun x y H Q => rEq x y H Q ∨ rEqD K x y H Q
theorem op_gEq {X : Cx} (hu : X.A.units + 64 < cLine) : OpR X (compareOp .Eq) (gEq X.K) := op_eq.or (op_eqD hu)
def gNe (K : PySem.W.Frag) : R2 := fun x y H Q => rNe x y H Q ∨ rNeD K x y H Q
theorem op_gNe {X : Cx} (hu : X.A.units + 64 < cLine) : OpR X (compareOp .NotEq) (gNe X.K) := op_ne.or (op_neD hu)
def gIsN : R2 := fun x y H Q => y = .non ∧ Q (.bl (decide (x = .non))) H
theorem op_gIsN {X : Cx} : OpR X (compareOp .Is) gIsN := op_isN
def gNeg : V → Hp → VK → Prop := rU fun i => .int (-i)
theorem op_gNeg {X : Cx} : UnR X (unaryOp .USub) gNeg := un_neg
section
variable {H0 H : Hp} {l : List (Addr × HO)} {Q : VK} {K : PySem.W.Frag} {p q a : Addr} {xs ys : List V} {n m : Int} {x y : V}
theorem rd_addI (h : Q (.int (n + m)) H) : gAdd (.int n) (.int m) H Q := .inl ⟨n, m, rfl, rfl, h⟩
theorem rd_addS {z w : Str} (hz : z.length + w.length ≤ sizeLine) (h : Q (.str (z ++ w)) H) : gAdd (.str z) (.str w) H Q := .inr (.inr ⟨z, w, rfl, rfl, hz, h⟩)
theorem rd_addL (L : Led H0 H l) (hp : H p = some (.lst xs)) (hq : H q = some (.lst ys)) (hz : xs.length + ys.length ≤ sizeLine) (h : ∀ r H', Led H0 H' ((r, .lst (xs ++ ys)) :: l) → Ts H H' → Q (.ref r) H') : gAdd (.ref p) (.ref q) H Q :=
  .inr (.inl ⟨p, q, xs, ys, rfl, rfl, hp, hq, hz, fun r hr => h r _ (L.push hr) (Ts.of (Same.push hr))⟩)
theorem rd_sub (h : Q (.int (n - m)) H) : gSub (.int n) (.int m) H Q := ⟨n, m, rfl, rfl, h⟩
theorem rd_mulL (h1 : -(2 ^ 64) < n) (h2 : n < 2 ^ 64) (h : Q (.int (n * m)) H) : gMul (.int n) (.int m) H Q := ⟨n, m, rfl, rfl, .of_left (intBits_le_64 h1 h2), h⟩
theorem rd_mulR (h1 : -(2 ^ 64) < m) (h2 : m < 2 ^ 64) (h : Q (.int (n * m)) H) : gMul (.int n) (.int m) H Q := ⟨n, m, rfl, rfl, .of_right (intBits_le_64 h1 h2), h⟩
theorem rd_mulW (hc : CMulW n m) (h : Q (.int (n * m)) H) : gMul (.int n) (.int m) H Q := ⟨n, m, rfl, rfl, hc.ok, h⟩
theorem rd_mul (hc : IntMulOk n m) (h : Q (.int (n * m)) H) : gMul (.int n) (.int m) H Q := ⟨n, m, rfl, rfl, hc, h⟩
theorem rd_div (hc : CDivW n m) (h : Q (.int (n / m)) H) : gDiv (.int n) (.int m) H Q := ⟨n, m, rfl, rfl, hc, h⟩
theorem rd_divK (h1 : (0 : Int) < m) (h2 : m < 1000000000000) (h : Q (.int (n / m)) H) : gDiv (.int n) (.int m) H Q :=
  ⟨n, m, rfl, rfl, wide_div (b := 40) h1 (by rw [show (2 : Nat) ^ 40 = 1099511627776 from by decide]; omega) (by decide) (by decide), h⟩
theorem rd_mod (hc : 0 < m) (h : Q (.int (n % m)) H) : gMod (.int n) (.int m) H Q := ⟨n, m, rfl, rfl, hc, h⟩
theorem rd_lt (h : Q (.bl (decide (n < m))) H) : gLt (.int n) (.int m) H Q := ⟨n, m, rfl, rfl, h⟩
theorem rd_le (h : Q (.bl (decide (n ≤ m))) H) : gLe (.int n) (.int m) H Q := ⟨n, m, rfl, rfl, h⟩
theorem rd_gt (h : Q (.bl (decide (m < n))) H) : gGt (.int n) (.int m) H Q := ⟨n, m, rfl, rfl, h⟩
theorem rd_ge (h : Q (.bl (decide (m ≤ n))) H) : gGe (.int n) (.int m) H Q := ⟨n, m, rfl, rfl, h⟩
theorem rd_neg (h : Q (.int (-n)) H) : gNeg (.int n) H Q := ⟨n, rfl, h⟩
theorem rd_eqI (h : Q (.bl (decide (n = m))) H) : gEq K (.int n) (.int m) H Q := .inl ⟨rfl, by simpa using h⟩
theorem rd_neI (h : Q (.bl (!decide (n = m))) H) : gNe K (.int n) (.int m) H Q := .inl ⟨rfl, by simpa using h⟩
theorem rd_eqS {z w : Str} (h : Q (.bl (decide (z = w))) H) : gEq K (.str z) (.str w) H Q := .inl ⟨rfl, by simpa using h⟩
theorem rd_neS {z w : Str} (h : Q (.bl (!decide (z = w))) H) : gNe K (.str z) (.str w) H Q := .inl ⟨rfl, by simpa using h⟩
theorem rd_eqB {z w : Bool} (h : Q (.bl (decide (z = w))) H) : gEq K (.bl z) (.bl w) H Q := .inl ⟨rfl, by simpa using h⟩
theorem rd_neB {z w : Bool} (h : Q (.bl (!decide (z = w))) H) : gNe K (.bl z) (.bl w) H Q := .inl ⟨rfl, by simpa using h⟩
theorem rd_isN (h : Q (.bl (decide (x = .non))) H) : gIsN x .non H Q := ⟨rfl, h⟩
theorem rd_eqD {d e : PyData} (hd : Dp K H x d) (he : Dp K H y e) (s1 : SeqAt.shaped d = true) (s2 : SeqAt.shaped e = true) (h : Q (.bl (PyData.eqv d e)) H) : gEq K x y H Q := .inr ⟨d, e, hd, he, s1, s2, h⟩
theorem rd_neD {d e : PyData} (hd : Dp K H x d) (he : Dp K H y e) (s1 : SeqAt.shaped d = true) (s2 : SeqAt.shaped e = true) (h : Q (.bl (!PyData.eqv d e)) H) : gNe K x y H Q := .inr ⟨d, e, hd, he, s1, s2, h⟩
/-! ### new lists and tuples -/
variable {σ : L2.St} {tA : TA} {QA : List V → Hp → Prop} {te : TE}
/-- a new list | tuple of these -/
def mkL (xs : List V) (H : Hp) (Q : VK) : Prop := xs.length ≤ sizeLine ∧ ∀ p, H p = none → Q (.ref p) (upd H p (.lst xs))
def mkT (xs : List V) (H : Hp) (Q : VK) : Prop := xs.length ≤ sizeLine ∧ ∀ p, H p = none → Q (.ref p) (upd H p (.tup xs))
theorem rd_lst (h : tA σ H fun xs H1 => mkL xs H1 Q) : tLst tA σ H Q := h
theorem rd_tup (h : tA σ H fun xs H1 => mkT xs H1 Q) : tTup tA σ H Q := h
theorem rd_mkL (L : Led H0 H l) (hz : xs.length ≤ sizeLine) (h : ∀ p H', Led H0 H' ((p, .lst xs) :: l) → Ts H H' → Q (.ref p) H') : mkL xs H Q := ⟨hz, fun p hp => h p _ (L.push hp) (Ts.of (Same.push hp))⟩
theorem rd_mkT (L : Led H0 H l) (hz : xs.length ≤ sizeLine) (h : ∀ p H', Led H0 H' ((p, .tup xs) :: l) → Ts H H' → Q (.ref p) H') : mkT xs H Q := ⟨hz, fun p hp => h p _ (L.push hp) (Ts.of (Same.push hp))⟩
/-- a slice of a list -/
theorem rd_slL {lo hi : Option Int} (L : Led H0 H l) (hs : SqL K H a xs) (h : ∀ p H', Led H0 H' ((p, .lst (cutV xs lo hi)) :: l) → Ts H H' → Q (.ref p) H') : rSlL K (.ref a) lo hi H Q := ⟨a, xs, rfl, hs, fun p hp => h p _ (L.push hp) (Ts.of (Same.push hp))⟩
/-! ### list methods -/
theorem rd_append (L : Led H0 H l) (i : Nat) (h : l[i]? = some (p, .lst xs)) (hz : xs.length < sizeLine) (k : ∀ H', Led H0 H' (l.set i (p, .lst (xs ++ [y]))) → Ts H H' → Q .non H') : rAppend (.ref p) [y] H Q :=
  ⟨p, xs, y, rfl, rfl, L.get i h, hz, k _ (L.put i h) (Ts.put (L.get i h))⟩
theorem rd_extend {zs : List V} (L : Led H0 H l) (i : Nat) (h : l[i]? = some (p, .lst xs)) (hq : H q = some (.lst zs)) (hz : xs.length + zs.length ≤ sizeLine) (k : ∀ H', Led H0 H' (l.set i (p, .lst (xs ++ zs))) → Ts H H' → Q .non H') : rExtend (.ref p) [.ref q] H Q :=
  ⟨p, q, xs, zs, rfl, rfl, L.get i h, hq, hz, k _ (L.put i h) (Ts.put (L.get i h))⟩
theorem rd_pop (L : Led H0 H l) (i : Nat) (h : l[i]? = some (p, .lst (xs ++ [y]))) (k : ∀ H', Led H0 H' (l.set i (p, .lst xs)) → Ts H H' → Q y H') : rPop (.ref p) [] H Q :=
  ⟨p, xs ++ [y], y, rfl, rfl, L.get i h, by simp, by simpa using k _ (L.put i h) (Ts.put (L.get i h))⟩
theorem rd_reverse (L : Led H0 H l) (i : Nat) (h : l[i]? = some (p, .lst xs)) (k : ∀ H', Led H0 H' (l.set i (p, .lst xs.reverse)) → Ts H H' → Q .non H') : rReverse (.ref p) [] H Q :=
  ⟨p, xs, rfl, rfl, L.get i h, k _ (L.put i h) (Ts.put (L.get i h))⟩
theorem rd_clear (L : Led H0 H l) (i : Nat) (h : l[i]? = some (p, .lst xs)) (k : ∀ H', Led H0 H' (l.set i (p, .lst [])) → Ts H H' → Q .non H') : rClear (.ref p) [] H Q :=
  ⟨p, xs, rfl, rfl, L.get i h, k _ (L.put i h) (Ts.put (L.get i h))⟩
/-! ### subscripts -/
theorem rd_ixL {v : V} (hs : SqL K H a xs) (h : atI xs n = some v) (k : Q v H) : rIx K (.ref a) (.int n) H Q := .inl ⟨a, xs, n, v, rfl, rfl, hs, h, k⟩
theorem rd_ixS {z : Str} {c : Nat} (hz : z.length ≤ sizeLine) (h : atI z.cps.toList n = some c) (k : Q (.str ⟨#[c]⟩) H) : rIx K (.str z) (.int n) H Q := .inr (.inr ⟨z, n, c, rfl, rfl, hz, h, k⟩)
/-! ### built-ins -/
def gLen (K : PySem.W.Frag) : List V → Hp → VK → Prop := fun xs H Q => ∃ x n, xs = [x] ∧ LenV K x H n ∧ Q (.int n) H
theorem cr_len {X : Cx} : CallR X (.builtin "len") (gLen X.K) := call_len
theorem rd_lenL (hs : SqL K H a xs) (k : Q (.int xs.length) H) : gLen K [.ref a] H Q := ⟨_, _, rfl, .inl ⟨xs, hs, rfl⟩, k⟩
theorem rd_lenT (hs : SqT K H a xs) (k : Q (.int xs.length) H) : gLen K [.ref a] H Q := ⟨_, _, rfl, .inr ⟨xs, hs, rfl⟩, k⟩
theorem rd_lenS {z : Str} (hz : z.length ≤ sizeLine) (k : Q (.int z.length) H) : gLen K [.str z] H Q := ⟨_, _, rfl, ⟨hz, rfl⟩, k⟩
def gList (K : PySem.W.Frag) : List V → Hp → VK → Prop := fun xs H Q => ∃ p ys, xs = [.ref p] ∧ (SqL K H p ys ∨ SqT K H p ys) ∧ ∀ l, H l = none → Q (.ref l) (upd H l (.lst ys))
theorem cr_list {X : Cx} : CallR X (.type "list") (gList X.K) := call_list_of
theorem rd_list (L : Led H0 H l) (hs : SqL K H a xs) (k : ∀ p H', Led H0 H' ((p, .lst xs) :: l) → Ts H H' → Q (.ref p) H') : gList K [.ref a] H Q := ⟨a, xs, rfl, .inl hs, fun p hp => k p _ (L.push hp) (Ts.of (Same.push hp))⟩
def gTuple (K : PySem.W.Frag) : List V → Hp → VK → Prop := fun xs H Q => ∃ p ys, xs = [.ref p] ∧ ((SqL K H p ys ∧ ∀ l, H l = none → Q (.ref l) (upd H l (.tup ys))) ∨ (SqT K H p ys ∧ Q (.ref p) H))
theorem cr_tuple {X : Cx} : CallR X (.type "tuple") (gTuple X.K) := call_tuple_of
theorem rd_tuple (L : Led H0 H l) (hs : SqL K H a xs) (k : ∀ p H', Led H0 H' ((p, .tup xs) :: l) → Ts H H' → Q (.ref p) H') : gTuple K [.ref a] H Q := ⟨a, xs, rfl, .inl ⟨hs, fun p hp => k p _ (L.push hp) (Ts.of (Same.push hp))⟩⟩
theorem rd_sum {ns : List Int} (hs : SqL K H a (ns.map V.int)) (k : Q (.int ns.sum) H) : rSum K [.ref a] H Q := ⟨a, ns, rfl, hs, k⟩
theorem rd_max {ns : List Int} (hs : SqL K H a (ns.map V.int)) (h0 : 0 < ns.length) (k : ∀ m, m ∈ ns → (∀ y, y ∈ ns → y ≤ m) → Q (.int m) H) : rMax K [.ref a] H Q := ⟨a, ns, rfl, hs, h0, k⟩
theorem rd_min {ns : List Int} (hs : SqL K H a (ns.map V.int)) (h0 : 0 < ns.length) (k : ∀ m, m ∈ ns → (∀ y, y ∈ ns → m ≤ y) → Q (.int m) H) : rMin K [.ref a] H Q := ⟨a, ns, rfl, hs, h0, k⟩
/-- max, min of a list, or of two ints -/
def gMax (K : PySem.W.Frag) : List V → Hp → VK → Prop := fun xs H Q => rMax K xs H Q ∨ ∃ i j, xs = [.int i, .int j] ∧ Q (.int (if j > i then j else i)) H
theorem cr_gMax {X : Cx} (hc : X.calm = true) : CallR X (.builtin "max") (gMax X.K) := (cr_max hc).or (call_max2 hc)
def gMin (K : PySem.W.Frag) : List V → Hp → VK → Prop := fun xs H Q => rMin K xs H Q ∨ ∃ i j, xs = [.int i, .int j] ∧ Q (.int (if j < i then j else i)) H
theorem cr_gMin {X : Cx} (hc : X.calm = true) : CallR X (.builtin "min") (gMin X.K) := (cr_min hc).or (call_min2 hc)
theorem rd_gMaxL {ns : List Int} (hs : SqL K H a (ns.map V.int)) (h0 : 0 < ns.length) (k : ∀ m, m ∈ ns → (∀ y, y ∈ ns → y ≤ m) → Q (.int m) H) : gMax K [.ref a] H Q := .inl ⟨a, ns, rfl, hs, h0, k⟩
theorem rd_gMinL {ns : List Int} (hs : SqL K H a (ns.map V.int)) (h0 : 0 < ns.length) (k : ∀ m, m ∈ ns → (∀ y, y ∈ ns → m ≤ y) → Q (.int m) H) : gMin K [.ref a] H Q := .inl ⟨a, ns, rfl, hs, h0, k⟩
theorem rd_gMax2 (k : Q (.int (max n m)) H) : gMax K [.int n, .int m] H Q := .inr ⟨n, m, rfl, by
  have e : (if m > n then m else n) = max n m := by split <;> omega
  rw [e]
  exact k⟩
theorem rd_gMin2 (k : Q (.int (min n m)) H) : gMin K [.int n, .int m] H Q := .inr ⟨n, m, rfl, by
  have e : (if m < n then m else n) = min n m := by split <;> omega
  rw [e]
  exact k⟩
def gInt : List V → Hp → VK → Prop := fun xs H Q => (∃ i, xs = [.int i] ∧ Q (.int i) H) ∨ ∃ k, xs = [.bl k] ∧ Q (.int (if k then 1 else 0)) H
theorem cr_int {X : Cx} : CallR X (.type "int") gInt := call_int1
theorem rd_intB {b : Bool} (k : Q (.int (if b then 1 else 0)) H) : gInt [.bl b] H Q := .inr ⟨b, rfl, k⟩
theorem rd_sorted {ns : List Int} (L : Led H0 H l) (hs : SqL K H a (ns.map V.int)) (k : ∀ (ms : List Int) p H', ms.Perm ns → ms.Pairwise (· ≤ ·) → Led H0 H' ((p, .lst (ms.map V.int)) :: l) → Ts H H' → Q (.ref p) H') : rSortedI K [.ref a] H Q :=
  ⟨a, ns, rfl, hs, fun ms p h1 h2 hp => k ms p _ h1 h2 (L.push hp) (Ts.of (Same.push hp))⟩
theorem rd_count {ns : List Int} (hs : SqL K H a (ns.map V.int)) (k : Q (.int (ns.count n : Nat)) H) : rCntI K (.ref a) [.int n] H Q := ⟨a, ns, n, rfl, rfl, hs, k⟩
/-- isinstance -/
theorem rd_isi {T : String} {t : Value} {b : Bool} (ht : TyX K H x t) (hk : PySem.W.kitOne K t (.type T) = some b) (k : Q (.bl b) H) : rIsi K [x, .ty T] H Q := ⟨x, .ty T, t, _, b, rfl, .ty T, ht, hk, k⟩
end
end Tr
/-! Loops, comprehensions, raise and try. -/
namespace Tr
open PySem PySem.Spec PyProof.Rows L2
section
variable {t u : TS} {te tl : TE} {D : Ends} {σ : L2.St} {H H0 : Hp} {Q : VK} {g : TG} {tb : TS} {K : PySem.W.Frag} {a : Addr} {xs : List V} {wi : TI} {J : It} {R : It → Hp → Prop} {l : List (Addr × HO)}
/-- a loop over what has come -/
def lp (J : It) (g : TG) (tb : TS) : TS := tFor (fun _ H R => R J H) g tb
theorem rd_for (h : wi σ H fun J H1 => lp J g tb D σ H1) : tFor wi g tb D σ H := h
def itL (K : PySem.W.Frag) (x : V) (H : Hp) (R : It → Hp → Prop) : Prop := ∃ a, x = .ref a ∧ (∃ xs, SqL K H a xs) ∧ R (Itl K a) H
def itT (K : PySem.W.Frag) (x : V) (H : Hp) (R : It → Hp → Prop) : Prop := ∃ a, x = .ref a ∧ (∃ xs, SqT K H a xs) ∧ R (Itt K a) H
def itS (x : V) (H : Hp) (R : It → Hp → Prop) : Prop := ∃ z, x = .str z ∧ R (Its z) H
theorem rd_iList (h : tl σ H fun x H1 => itL K x H1 R) : iList K tl σ H R := h
theorem rd_iTup (h : tl σ H fun x H1 => itT K x H1 R) : iTup K tl σ H R := h
theorem rd_iStr (h : tl σ H fun x H1 => itS x H1 R) : iStr tl σ H R := h
theorem rd_itL (hs : SqL K H a xs) (h : R (Itl K a) H) : itL K (.ref a) H R := ⟨a, rfl, ⟨xs, hs⟩, h⟩
theorem rd_itT (hs : SqT K H a xs) (h : R (Itt K a) H) : itT K (.ref a) H R := ⟨a, rfl, ⟨xs, hs⟩, h⟩
theorem rd_itS {z : Str} (h : R (Its z) H) : itS (.str z) H R := ⟨z, rfl, h⟩
variable {tA : TA}
def itR1 (vs : List V) (H : Hp) (R : It → Hp → Prop) : Prop := ∃ j : Int, vs = [.int j] ∧ -(2 ^ 62) ≤ j ∧ j < 2 ^ 62 ∧ R (Itr 0 j.toNat) H
def itR2 (vs : List V) (H : Hp) (R : It → Hp → Prop) : Prop := ∃ i j : Int, vs = [.int i, .int j] ∧ (-(2 ^ 62) ≤ i ∧ i < 2 ^ 62 ∧ -(2 ^ 62) ≤ j ∧ j < 2 ^ 62) ∧ R (Itr i (j - i).toNat) H
def itR3 (vs : List V) (H : Hp) (R : It → Hp → Prop) : Prop := ∃ (i j c : Int) (n : Nat), vs = [.int i, .int j, .int c] ∧ RgC i j c n ∧ R (Itc i c n) H
theorem rd_iRng1 (h : tA σ H fun vs H1 => itR1 vs H1 R) : iRng1 tA σ H R := h
theorem rd_iRng2 (h : tA σ H fun vs H1 => itR2 vs H1 R) : iRng2 tA σ H R := h
theorem rd_iRng3 (h : tA σ H fun vs H1 => itR3 vs H1 R) : iRng3 tA σ H R := h
theorem rd_itR1 {j : Int} (n : Nat) (e : j.toNat = n) (h1 : -(2 ^ 62) ≤ j) (h2 : j < 2 ^ 62) (h : R (Itr 0 n) H) : itR1 [.int j] H R := ⟨j, rfl, h1, h2, e ▸ h⟩
theorem rd_itR2 {i j : Int} (n : Nat) (e : (j - i).toNat = n) (h1 : -(2 ^ 62) ≤ i ∧ i < 2 ^ 62 ∧ -(2 ^ 62) ≤ j ∧ j < 2 ^ 62) (h : R (Itr i n) H) : itR2 [.int i, .int j] H R := ⟨i, j, rfl, h1, e ▸ h⟩
theorem rd_itRd {i j : Int} (n : Nat) (e : (i - j).toNat = n) (h1 : -(2 ^ 62) ≤ i) (h2 : i < 2 ^ 62) (h3 : -(2 ^ 62) ≤ j) (h4 : j < 2 ^ 62) (h : R (Itc i (-1) n) H) : itR3 [.int i, .int j, .int (-1)] H R := ⟨i, j, -1, n, rfl, e ▸ RgC.neg h1 h2 h3 h4, h⟩
def itV (K : PySem.W.Frag) (v : V) (H : Hp) (R : It → Hp → Prop) : Prop := ∃ (a : Addr) (xs : List V), v = .ref a ∧ ((SqL K H a xs ∧ R (Itv K a xs.length) H) ∨ (SqT K H a xs ∧ R (RT.ItvT K a xs.length) H))
theorem rd_iRev (h : te σ H fun v H1 => itV K v H1 R) : RT.iRevA K te σ H R := h
theorem rd_itV (hs : SqL K H a xs) (h : R (Itv K a xs.length) H) : itV K (.ref a) H R := ⟨a, xs, rfl, .inl ⟨hs, h⟩⟩
/-! ### the loops -/
abbrev Turn1 (tb : TS) (D : Ends) (N : L2.St → Hp → Prop) : L2.St → Hp → Prop := tb { D with nx := N, ct := N, bk := D.nx }
theorem lp_list (Pv : Nat → L2.St → Hp → Prop) (h0 : Pv 0 σ H) (hl : ∀ i σ H, i ≤ xs.length → Pv i σ H → SqL K H a xs)
    (hs : ∀ i x σ H, xs[i]? = some x → Pv i σ H → g x σ H (Turn1 tb D (Pv (i + 1)))) (hd : ∀ σ H, Pv xs.length σ H → D.nx σ H) : lp (Itl K a) g tb D σ H := for_list Pv h0 hl hs hd
theorem lp_ints {ns : List Int} (Pv : Nat → L2.St → Hp → Prop) (h0 : Pv 0 σ H) (hl : ∀ i σ H, i ≤ ns.length → Pv i σ H → SqL K H a (ns.map V.int))
    (hs : ∀ i n σ H, ns[i]? = some n → Pv i σ H → g (.int n) σ H (Turn1 tb D (Pv (i + 1)))) (hd : ∀ σ H, Pv ns.length σ H → D.nx σ H) : lp (Itl K a) g tb D σ H := by
  refine lp_list (xs := ns.map V.int) Pv h0 (fun i σ H hi => hl i σ H (by simpa using hi)) (fun i x σ H hx hp => ?_) (fun σ H h => hd σ H (by simpa using h))
  rw [List.getElem?_map] at hx
  cases e : ns[i]? with
  | none => rw [e] at hx; cases hx
  | some n =>
    rw [e] at hx
    cases hx
    exact hs i n σ H e hp
theorem lp_tup (Pv : Nat → L2.St → Hp → Prop) (h0 : Pv 0 σ H) (hl : ∀ i σ H, i ≤ xs.length → Pv i σ H → SqT K H a xs)
    (hs : ∀ i x σ H, xs[i]? = some x → Pv i σ H → g x σ H (Turn1 tb D (Pv (i + 1)))) (hd : ∀ σ H, Pv xs.length σ H → D.nx σ H) : lp (Itt K a) g tb D σ H := for_tup Pv h0 hl hs hd
theorem lp_rng {lo : Int} {n : Nat} (Pv : Nat → L2.St → Hp → Prop) (h0 : Pv 0 σ H)
    (hs : ∀ i σ H, i < n → Pv i σ H → g (.int (lo + i)) σ H (Turn1 tb D (Pv (i + 1)))) (hd : ∀ σ H, Pv n σ H → D.nx σ H) : lp (Itr lo n) g tb D σ H := for_range Pv h0 hs hd
theorem lp_rng0 {n : Nat} (Pv : Nat → L2.St → Hp → Prop) (h0 : Pv 0 σ H)
    (hs : ∀ i σ H, i < n → Pv i σ H → g (.int (i : Nat)) σ H (Turn1 tb D (Pv (i + 1)))) (hd : ∀ σ H, Pv n σ H → D.nx σ H) : lp (Itr 0 n) g tb D σ H := for_range Pv h0 (fun i σ H hi hp => by
      have e : (0 : Int) + (i : Nat) = (i : Nat) := by omega
      rw [e]
      exact hs i σ H hi hp) hd
theorem lp_rngC {lo c : Int} {n : Nat} (Pv : Nat → L2.St → Hp → Prop) (h0 : Pv 0 σ H)
    (hs : ∀ i σ H, i < n → Pv i σ H → g (.int (lo + (i : Nat) * c)) σ H (Turn1 tb D (Pv (i + 1)))) (hd : ∀ σ H, Pv n σ H → D.nx σ H) : lp (Itc lo c n) g tb D σ H := for_rangeC Pv h0 hs hd
theorem lp_rev (Pv : Nat → L2.St → Hp → Prop) (h0 : Pv 0 σ H) (hq : ∀ i σ H, Pv i σ H → SqL K H a xs)
    (hs : ∀ (i : Nat) (x : V) (σ : L2.St) (H : Hp), i < xs.length → xs[xs.length - 1 - i]? = some x → Pv i σ H → g x σ H (Turn1 tb D (Pv (i + 1)))) (hd : ∀ σ H, Pv xs.length σ H → D.nx σ H) : lp (Itv K a xs.length) g tb D σ H := RT.for_Itv Pv h0 hq hs hd
theorem lp_str {z : Str} (Pv : Nat → L2.St → Hp → Prop) (h0 : Pv 0 σ H)
    (hs : ∀ i c σ H, z.cps[i]? = some c → Pv i σ H → g (.str ⟨#[c]⟩) σ H (Turn1 tb D (Pv (i + 1)))) (hd : ∀ σ H, Pv z.cps.size σ H → D.nx σ H) : lp (Its z) g tb D σ H := by
  refine ⟨fun i m σ H => m = z.cps.size - i ∧ i ≤ z.cps.size ∧ Pv i σ H, ⟨z.cps.size, by simp, Nat.zero_le _, h0⟩, ?_⟩
  rintro i m σ H ⟨rfl, hi, p⟩
  by_cases hlt : i < z.cps.size
  · refine .inr ⟨hlt, Pv (i + 1), fun σ' H' p' => ⟨z.cps.size - (i + 1), by omega, rfl, hlt, p'⟩, fun x H' y => ?_⟩
    obtain ⟨e, c, hc, y⟩ := y
    subst e y
    exact hs i c σ _ hc p
  · have e : i = z.cps.size := by omega
    subst e
    exact .inl ⟨Nat.le_refl _, hd σ H p⟩
/-- while, by a word and a measure -/
def wTurn (W : Nat → L2.St → Hp → Prop) (m : Nat) (tb : TS) : TS := fun D σ H => ∃ N : L2.St → Hp → Prop, (∀ σ' H', N σ' H' → ∃ m', m' < m ∧ W m' σ' H') ∧ Turn1 tb D N σ H
theorem rd_wTurn {W : Nat → L2.St → Hp → Prop} {m : Nat} (h : Turn1 tb D (fun σ' H' => ∃ m', m' < m ∧ W m' σ' H') σ H) : wTurn W m tb D σ H := ⟨_, fun _ _ p => p, h⟩
theorem rd_while {c : TT} (W : Nat → L2.St → Hp → Prop) (m : Nat) (h0 : W m σ H)
    (hs : ∀ m σ H, W m σ H → c σ H fun b H1 => if b = true then wTurn W m tb D σ H1 else D.nx σ H1) : tWhile c tb D σ H := ⟨W, ⟨m, h0⟩, fun m σ H w => hs m σ H w⟩
/-! ### comprehensions -/
variable {tt : TT} {vs : List Nat}
def lc (J : It) (g : TG) (tt : TT) (te : TE) (vs : List Nat) : TE := tLc (fun _ H R => R J H) g tt te vs
theorem rd_lc (h : wi σ H fun J H1 => lc J g tt te vs σ H1 Q) : tLc wi g tt te vs σ H Q := h
/-- a turn's end: the new item y is put behind -/
def put1 (D : Addr) (N : Hp → Prop) (y : V) (H4 : Hp) : Prop := ∃ acc, H4 D = some (.lst acc) ∧ acc.length < sizeLine ∧ N (upd H4 D (.lst (acc ++ [y])))
theorem rd_put1 {D : Addr} {acc : List V} {N : Hp → Prop} {y : V} (L : Led H0 H l) (i : Nat) (hi : l[i]? = some (D, .lst acc)) (hz : acc.length < sizeLine) (h : ∀ H5, Led H0 H5 (l.set i (D, .lst (acc ++ [y]))) → Ts H H5 → N H5) : put1 D N y H :=
  ⟨acc, L.get i hi, hz, h _ (L.put i hi) (Ts.put (L.get i hi))⟩
theorem lc_rng {lo : Int} {n : Nat} {vs : List Nat} (L : Led H0 H l)
    (h : ∀ D H1, Led H0 H1 ((D, .lst []) :: l) → Ts H H1 → ∃ Pv : Nat → Hp → Prop, Pv 0 H1 ∧
      (∀ i H1, i < n → Pv i H1 → g (.int (lo + (i : Nat))) (wipe σ vs) H1 fun σ2 H2 => wipe σ2 vs = wipe σ vs ∧ tt σ2 H2 fun b H3 => if b = true then te σ2 H3 (put1 D (Pv (i + 1))) else Pv (i + 1) H3) ∧
      (∀ H1, Pv n H1 → Q (.ref D) H1)) : lc (Itr lo n) g tt te vs σ H Q := by
  intro D hD
  obtain ⟨Pv, h0, hs, hd⟩ := h D _ (L.push hD) (Ts.of (Same.push hD))
  exact lc_range Pv h0 hs hd
theorem lc_lst {vs : List Nat} (L : Led H0 H l)
    (h : ∀ D H1, Led H0 H1 ((D, .lst []) :: l) → Ts H H1 → ∃ Pv : Nat → Hp → Prop, Pv 0 H1 ∧ (∀ i H, i ≤ xs.length → Pv i H → SqL K H a xs) ∧
      (∀ i x H1, xs[i]? = some x → Pv i H1 → g x (wipe σ vs) H1 fun σ2 H2 => wipe σ2 vs = wipe σ vs ∧ tt σ2 H2 fun b H3 => if b = true then te σ2 H3 (put1 D (Pv (i + 1))) else Pv (i + 1) H3) ∧
      (∀ H1, Pv xs.length H1 → Q (.ref D) H1)) : lc (Itl K a) g tt te vs σ H Q := by
  intro D hD
  obtain ⟨Pv, h0, hl, hs, hd⟩ := h D _ (L.push hD) (Ts.of (Same.push hD))
  exact L2.lc_list Pv h0 hl hs hd
/-- a list of what f tells of each place -/
def mapW (H0 H : Hp) (l : List (Addr × HO)) (f : Nat → V) (D : Addr) (i : Nat) (H2 : Hp) : Prop := Led H0 H2 ((D, .lst ((List.range i).map f)) :: l) ∧ Ts H H2
theorem rd_mapEnd {f : Nat → V} {i : Nat} {D : Addr} {H3 : Hp} (l' : List (Addr × HO)) (L : Led H0 H3 (l' ++ (D, .lst ((List.range i).map f)) :: l)) (t : Ts H H3) (hi : i < 1000000) {y : V} (e : y = f i) : put1 D (mapW H0 H l f D (i + 1)) y H3 := by
  subst e
  refine rd_put1 L.drop1 0 rfl (by rw [List.length_map, List.length_range]; exact szl (Nat.le_of_lt hi)) fun H5 L5 t5 => ⟨L5.to ?_, t.trans t5⟩
  rw [List.range_succ, List.map_append]
  rfl
theorem lc_map {n : Nat} {vs : List Nat} (f : Nat → V) (L : Led H0 H l)
    (hs : ∀ i D H1, i < n → Led H0 H1 ((D, .lst ((List.range i).map f)) :: l) → Ts H H1 → g (.int (i : Nat)) (wipe σ vs) H1 fun σ2 H2 => wipe σ2 vs = wipe σ vs ∧ tt σ2 H2 fun b H3 => if b = true then te σ2 H3 (put1 D (mapW H0 H l f D (i + 1))) else mapW H0 H l f D (i + 1) H3)
    (hd : ∀ D H1, Led H0 H1 ((D, .lst ((List.range n).map f)) :: l) → Ts H H1 → Q (.ref D) H1) : lc (Itr 0 n) g tt te vs σ H Q := by
  refine lc_rng L fun D H1 L1 t1 => ⟨mapW H0 H l f D, ⟨L1, t1⟩, fun i H2 hi ⟨L2, t2⟩ => ?_, fun H2 ⟨L2, t2⟩ => hd D H2 L2 t2⟩
  have e : (0 : Int) + (i : Nat) = (i : Nat) := by omega
  rw [e]
  exact hs i D H2 hi L2 t2
theorem gName_mono {i : Nat} : ∀ (x : V) (σ : L2.St) (H : Hp) (R R' : L2.St → Hp → Prop), (∀ σ2 H2, R σ2 H2 → R' σ2 H2) → gName i x σ H R → gName i x σ H R' := fun _ _ _ _ _ h q => h _ _ q
theorem tYes_mono : ∀ (σ : L2.St) (H : Hp) (Q Q' : Bool → Hp → Prop), (∀ b H1, Q b H1 → Q' b H1) → tYes σ H Q → tYes σ H Q' := fun _ _ _ _ h q => h _ _ q
theorem rd_yes {QB : Bool → Hp → Prop} (h : QB true H) : tYes σ H QB := h
end
/-! ### raise -/
structure ExcT (K : PySem.W.Frag) (mg : Str → Option Value) (x : Str) : Prop where
  gl : mg x = some (.ref (He.ga K x))
  xc : PySem.W.excIn K (He.ga K x) He.veBase "ValueError.__new__" = true
  kp : PySem.W.keepIn K (.ref (He.ga K x)) = true
  bs : PySem.W.subIn K (.ref (He.ga K x)) (.type "BaseException") = some true
  ty : PySem.W.typeIn K (.ref (He.ga K x)) = some (.type "type")
def tRz (W : WX) (C : Addr) : TS := fun _ σ H => W (.ref C) none σ H
theorem ps_rz {X : Cx} {W : WX} {x m : Str} {j : Nat} {p p2 pos pos2 : Pos} (T : ExcT X.K X.mg x) (hc : X.calm = true) (tk : Takes X W) (hg : Gl X x) (hdb : (x == ("__debug__" : Str)) = false := by decide) :
    PS X (.Raise (some (.Call (.Name x p) [.Constant (.str m) j p2] [] pos)) none pos2) (tRz W (He.ga X.K x)) :=
  ps_raise hc tk (pmk_own PySem.F.excBase_ValueError T.xc T.gl T.kp (raises_own T.bs T.ty) hg hdb)
theorem rd_rz {W : WX} {C : Addr} {D : Ends} {σ : L2.St} {H : Hp} (h : W (.ref C) none σ H) : tRz W C D σ H := h
/-! ### isinstance of what a suite holds -/
def gIsE (K : PySem.W.Frag) (a : Addr) (cls : Value) (d : Option Addr) : List V → Hp → VK → Prop := fun xs H Q => ∃ (D : Addr) (c : V) (cv : Value) (b : Bool), cls = .ref D ∧ d = none ∧ ExcC K D ∧ xs = [.ref a, c] ∧ (∀ u, RelV c u → u = cv) ∧ PySem.W.kitOne K (.ref D) cv = some b ∧ Q (.bl b) H
theorem cr_isE {X : Cx} {a : Addr} {cls : Value} {d : Option Addr} {oe : Obj} {pn : List (Addr × Obj)} (hz : Zc cls d oe) (hf : ∃ vs, oe.data = .fields vs) : CallR (X.suite a ((a, oe) :: pn)) (.builtin "isinstance") (gIsE X.K a cls d) := by
  intro pins s σ H xs us Q I r h
  obtain ⟨D, c, cv, b, rfl, rfl, C, h⟩ := h
  exact call_isE (X := X) C hz hf pins s σ H xs us Q I r ⟨c, cv, b, h⟩
theorem rd_isE {K : PySem.W.Frag} {a D C : Addr} {H : Hp} {Q : VK} {b : Bool} (E : ExcC K D) (hk : PySem.W.kitOne K (.ref D) (.ref C) = some b) (k : Q (.bl b) H) : gIsE K a (.ref D) none [.ref a, .ref C] H Q :=
  ⟨D, _, _, b, rfl, rfl, E, rfl, fun _ r => r, hk, k⟩
theorem rd_isET {K : PySem.W.Frag} {a D : Addr} {H : Hp} {Q : VK} {b : Bool} {n : String} (E : ExcC K D) (hk : PySem.W.kitOne K (.ref D) (.type n) = some b) (k : Q (.bl b) H) : gIsE K a (.ref D) none [.ref a, .ty n] H Q :=
  ⟨D, _, _, b, rfl, rfl, E, rfl, fun _ r => r, hk, k⟩
end Tr
/-! Further rules. -/
namespace Tr
open PySem PySem.Spec PyProof.Rows L2
theorem pe_gint {X : Cx} {x : Str} {n : Int} {pos : Pos} (h : ∃ t, X.mg x = some (.int n t)) (hg : Gl X x) (hd : (x == ("__debug__" : Str)) = false := by decide) : PE X (.Name x pos) (tC (.int n)) := by
  obtain ⟨t, h⟩ := h
  exact pe_glob hg h ⟨t, rfl⟩ hd
theorem ited {p A B : Prop} [Decidable p] (h1 : p → A) (h2 : ¬ p → B) : if decide p = true then A else B := by
  by_cases h : p
  · rw [if_pos (decide_eq_true h)]
    exact h1 h
  · rw [if_neg (by rw [decide_eq_false h]; decide)]
    exact h2 h
theorem itedN {p A B : Prop} [Decidable p] (h1 : ¬ p → A) (h2 : p → B) : if (!decide p) = true then A else B := by
  by_cases h : p
  · rw [if_neg (by rw [decide_eq_true h]; decide)]
    exact h2 h
  · rw [if_pos (by rw [decide_eq_false h]; decide)]
    exact h1 h
theorem iteB {b : Bool} {A B : Prop} (h1 : b = true → A) (h2 : b = false → B) : if b = true then A else B := by
  cases b with
  | true => exact iteT (h1 rfl)
  | false => exact iteF (h2 rfl)
theorem iteBN {b : Bool} {A B : Prop} (h1 : b = false → A) (h2 : b = true → B) : if (!b) = true then A else B := by
  cases b with
  | true => exact iteF (h2 rfl)
  | false => exact iteT (h1 rfl)
/-- == of two lists of ints -/
theorem ints_data (ns : List Int) : ∀ {K : PySem.W.Frag} {H : Hp}, DpAll K H (ns.map V.int) (ns.map PyData.int) := by
  induction ns with
  | nil => intro K H; exact .nil
  | cons n ns ih => intro K H; exact .cons (.int n) ih
end Tr
namespace Tr
open PySem PySem.Spec PyProof.Rows L2
/-! ### slices and places -/
theorem cut_from {xs : List V} {k : Nat} : cutV xs (some (k : Int)) none = xs.drop k := by
  unfold cutV
  rw [HT.sIx_nat, HT.sIx_none]
  by_cases h : k ≤ xs.length
  · rw [Nat.min_eq_left h]
    exact List.take_of_length_le (by rw [List.length_drop]; omega)
  · have e : min k xs.length = xs.length := by omega
    rw [e, List.drop_length, List.drop_eq_nil_of_le (by omega)]
    simp
theorem cut_to {xs : List V} {k : Nat} : cutV xs none (some (k : Int)) = xs.take k := by
  unfold cutV
  rw [HT.sIx_nat, HT.sIx_none, List.drop_zero, Nat.sub_zero]
  by_cases h : k ≤ xs.length
  · rw [Nat.min_eq_left h]
  · have e : min k xs.length = xs.length := by omega
    rw [e, List.take_length, List.take_of_length_le (by omega)]
theorem cut_both {xs : List V} {j k : Nat} : cutV xs (some (j : Int)) (some (k : Int)) = (xs.drop j).take (k - j) := by
  unfold cutV
  rw [HT.sIx_nat, HT.sIx_nat]
  by_cases h : j ≤ xs.length
  · rw [Nat.min_eq_left h]
    by_cases h2 : k ≤ xs.length
    · rw [Nat.min_eq_left h2]
    · have e : min k xs.length = xs.length := by omega
      rw [e, List.take_of_length_le (by rw [List.length_drop]; omega), List.take_of_length_le (by rw [List.length_drop]; omega)]
  · have e : min j xs.length = xs.length := by omega
    rw [e, List.drop_length, List.drop_eq_nil_of_le (by omega)]
    simp
theorem at_int {ls : List Int} {k : Int} (h0 : 0 ≤ k) (hk : k < ls.length) : atI (ls.map V.int) k = some (.int (ls.getD k.toNat 0)) := by
  obtain ⟨j, rfl⟩ : ∃ j : Nat, k = j := ⟨k.toNat, by omega⟩
  have hj : j < ls.length := by omega
  refine atI_nat ?_
  rw [List.getElem?_map, List.getElem?_eq_getElem hj, Int.toNat_natCast, List.getD_eq_getElem?_getD, List.getElem?_eq_getElem hj]
  rfl
theorem mem_take {α : Type} {l : List α} {i : Nat} {x : α} (h : l[i]? = some x) : x ∈ l := List.mem_of_getElem? h
theorem take_sum {ns : List Int} {i : Nat} {n : Int} (h : ns[i]? = some n) : (ns.take (i + 1)).sum = (ns.take i).sum + n := by
  rw [List.take_add_one, h, List.sum_append]
  simp
/-! ### == of lists of ints -/
theorem eqvAll_ints : ∀ (ns ms : List Int), PyData.eqvAll (ns.map PyData.int) (ms.map PyData.int) = decide (ns = ms)
  | [], [] => by simp [PyData.eqvAll]
  | [], _ :: _ => by simp [PyData.eqvAll]
  | _ :: _, [] => by simp [PyData.eqvAll]
  | n :: ns, m :: ms => by
    simp only [List.map_cons, PyData.eqvAll, eqvAll_ints ns ms]
    by_cases h : n = m
    · subst h
      simp [PyData.eqv]
    · simp [PyData.eqv, h]
end Tr
namespace Tr
open PySem PySem.Spec PyProof.Rows L2
theorem depth_ints : ∀ ns : List Int, PyData.depthAll (ns.map PyData.int) = 0
  | [] => by simp only [List.map_nil, PyData.depthAll]
  | n :: ns => by simp only [List.map_cons, PyData.depthAll, PyData.depth, depth_ints ns, Nat.max_self]
theorem canLay_ints : ∀ ns : List Int, PyData.canLayAll0 (ns.map PyData.int) = true
  | [] => by simp only [List.map_nil, PyData.canLayAll0]
  | n :: ns => by simp only [List.map_cons, PyData.canLayAll0, PyData.canLay0, canLay_ints ns, Bool.and_self]
theorem shaped_ints (ns : List Int) : SeqAt.shaped (.list (ns.map PyData.int)) = true := by
  unfold SeqAt.shaped
  simp only [PyData.canLay0, canLay_ints, PyData.depth, depth_ints, Bool.true_and]
  decide
theorem eqv_ints (ns ms : List Int) : PyData.eqv (.list (ns.map PyData.int)) (.list (ms.map PyData.int)) = decide (ns = ms) := by
  rw [PyData.eqv, eqvAll_ints]
section
variable {K : PySem.W.Frag} {H : Hp} {Q : VK} {p q : Addr} {ns ms : List Int}
theorem dp_ints (h : SqL K H p (ns.map V.int)) : Dp K H (.ref p) (.list (ns.map PyData.int)) := .lst h (ints_data ns)
theorem rd_eqL (h1 : SqL K H p (ns.map V.int)) (h2 : SqL K H q (ms.map V.int)) (k : Q (.bl (decide (ns = ms))) H) : gEq K (.ref p) (.ref q) H Q :=
  rd_eqD (dp_ints h1) (dp_ints h2) (shaped_ints ns) (shaped_ints ms) (by rw [eqv_ints]; exact k)
theorem rd_neL (h1 : SqL K H p (ns.map V.int)) (h2 : SqL K H q (ms.map V.int)) (k : Q (.bl (!decide (ns = ms))) H) : gNe K (.ref p) (.ref q) H Q :=
  rd_neD (dp_ints h1) (dp_ints h2) (shaped_ints ns) (shaped_ints ms) (by rw [eqv_ints]; exact k)
end
/-! ### the promises of pure defs -/
/-- a new list -/
def newL (H : Hp) (Q : VK) (xs : List V) : Prop := ∀ p H', Led H H' [(p, .lst xs)] → Q (.ref p) H'
/-- nothing but a value -/
def newV (H : Hp) (Q : VK) (v : V) : Prop := ∀ H', Led H H' [] → Q v H'
/-- an error -/
def newE (K : PySem.W.Frag) (H : Hp) (E : XK) (x : Str) : Prop := ∀ H', Led H H' [] → E (.ref (He.ga K x)) none H'
end Tr
namespace Tr
open PySem PySem.Spec PyProof.Rows L2
/-! ### the rules with the written part named -/
section
variable {X : Cx} (K : PySem.W.Frag)
theorem kLen (h : X.K = K := by rfl) : CallR X (.builtin "len") (gLen K) := h ▸ cr_len
theorem kSum (hc : X.calm = true) (h : X.K = K := by rfl) : CallR X (.builtin "sum") (rSum K) := h ▸ cr_sum hc
theorem kMax (hc : X.calm = true) (h : X.K = K := by rfl) : CallR X (.builtin "max") (gMax K) := h ▸ cr_gMax hc
theorem kMin (hc : X.calm = true) (h : X.K = K := by rfl) : CallR X (.builtin "min") (gMin K) := h ▸ cr_gMin hc
theorem kSorted (h : X.K = K := by rfl) : CallR X (.builtin "sorted") (rSortedI K) := h ▸ cr_sortedI
theorem kIsi (h : X.K = K := by rfl) : CallR X (.builtin "isinstance") (rIsi K) := h ▸ call_isi
theorem kList (h : X.K = K := by rfl) : CallR X (.type "list") (gList K) := h ▸ cr_list
theorem kTuple (h : X.K = K := by rfl) : CallR X (.type "tuple") (gTuple K) := h ▸ cr_tuple
theorem kEq (hu : X.A.units + 64 < cLine) (h : X.K = K := by rfl) : OpR X (compareOp .Eq) (gEq K) := h ▸ op_gEq hu
theorem kNe (hu : X.A.units + 64 < cLine) (h : X.K = K := by rfl) : OpR X (compareOp .NotEq) (gNe K) := h ▸ op_gNe hu
theorem kIx (h : X.K = K := by rfl) : IxR X (rIx K) := h ▸ ix_seq
theorem kSl (h : X.K = K := by rfl) : SlR X (rSlL K) := h ▸ sl_list
theorem kCount (h : X.K = K := by rfl) : MtR X "list.count" (rCntI K) := h ▸ mt_lcount
theorem kIndex (h : X.K = K := by rfl) : MtR X "list.index" (rIndex K) := h ▸ mt_index
variable {tg : Expr} {l : Expr} {tl : TE}
theorem kiList (hl : PE X l tl) (h : X.K = K := by rfl) : PI X tg l (iList K tl) := h ▸ pi_list hl
theorem kiTup (hl : PE X l tl) (h : X.K = K := by rfl) : PI X tg l (iTup K tl) := h ▸ pi_tup hl
variable {o e : Expr} {es : List Expr} {to : TE} {t : TA} {name : Str} {apos cpos : Pos} {T id : String} {r : V → List V → Hp → VK → Prop}
theorem kbm0 (pa : PlainAttrs T) (slot : Slot T name id) (hty : typeOf (.builtin id) = pure (.type "method_descriptor")) (hm : MtR X id r) (ho : PE X o to)
    (h : X.K = K := by rfl) (hbase : attributeBase o name X.env (eval o X.env) = eval o X.env := by rfl) (hline : (apos.endLine == cpos.line) = true := by rfl) : PE X (.Call (.Attribute o name apos) [] [] cpos) (tBM0 K T r to) :=
  h ▸ pe_bm0 pa slot hty hm ho hbase hline
theorem kbm (pa : PlainAttrs T) (slot : Slot T name id) (hty : typeOf (.builtin id) = pure (.type "method_descriptor")) (hm : MtR X id r) (ho : PE X o to) (ha : PA X (e :: es) t)
    (h : X.K = K := by rfl) (hbase : attributeBase o name X.env (eval o X.env) = eval o X.env := by rfl)
    (hfew : ((backTo cpos (starEach (e :: es) X.env)).all (fun x => !x.1) && (backToKw cpos (keywordEach [] X.env)).all (fun x => x.1.isSome)
      && decide ((e :: es).length + ([] : List Keyword).length + (if ([] : List Keyword).isEmpty then 0 else 1) < 30)) = true := by rfl)
    (hline : (apos.endLine == cpos.line) = true := by rfl) (hs : starEach (e :: es) X.env = (false, eval e X.env) :: starEach es X.env := by rfl) (hplain : (backTo cpos (starEach es X.env)).any (·.1) = false := by rfl) :
    PE X (.Call (.Attribute o name apos) (e :: es) [] cpos) (tBM K T r to t) := h ▸ pe_bm pa slot hty hm ho ha hbase hfew hline hs hplain
end
end Tr
namespace Tr
theorem iteNT {A B : Prop} (h : B) : if (!true) = true then A else B := L2.iteF h
theorem iteNF {A B : Prop} (h : A) : if (!false) = true then A else B := L2.iteT h
end Tr
namespace Tr
open PySem PySem.Spec PyProof.Rows L2
/-! ### == of lists of truths -/
theorem bools_data (ns : List Bool) : ∀ {K : PySem.W.Frag} {H : Hp}, DpAll K H (ns.map V.bl) (ns.map PyData.bool) := by
  induction ns with
  | nil => intro K H; exact .nil
  | cons n ns ih => intro K H; exact .cons (.bl n) ih
theorem eqvAll_bools : ∀ (ns ms : List Bool), PyData.eqvAll (ns.map PyData.bool) (ms.map PyData.bool) = decide (ns = ms)
  | [], [] => by simp [PyData.eqvAll]
  | [], _ :: _ => by simp [PyData.eqvAll]
  | _ :: _, [] => by simp [PyData.eqvAll]
  | n :: ns, m :: ms => by
    simp only [List.map_cons, PyData.eqvAll, eqvAll_bools ns ms]
    by_cases h : n = m
    · subst h
      simp [PyData.eqv]
    · simp [PyData.eqv, h]
theorem depth_bools : ∀ ns : List Bool, PyData.depthAll (ns.map PyData.bool) = 0
  | [] => by simp only [List.map_nil, PyData.depthAll]
  | n :: ns => by simp only [List.map_cons, PyData.depthAll, PyData.depth, depth_bools ns, Nat.max_self]
theorem canLay_bools : ∀ ns : List Bool, PyData.canLayAll0 (ns.map PyData.bool) = true
  | [] => by simp only [List.map_nil, PyData.canLayAll0]
  | n :: ns => by simp only [List.map_cons, PyData.canLayAll0, PyData.canLay0, canLay_bools ns, Bool.and_self]
theorem shaped_bools (ns : List Bool) : SeqAt.shaped (.list (ns.map PyData.bool)) = true := by
  unfold SeqAt.shaped
  simp only [PyData.canLay0, canLay_bools, PyData.depth, depth_bools, Bool.true_and]
  decide
section
variable {K : PySem.W.Frag} {H : Hp} {Q : VK} {p q : Addr}
theorem rd_eqBs (ns ms : List Bool) (h1 : SqL K H p (ns.map V.bl)) (h2 : SqL K H q (ms.map V.bl)) (k : Q (.bl (decide (ns = ms))) H) : gEq K (.ref p) (.ref q) H Q :=
  rd_eqD (.lst h1 (bools_data ns)) (.lst h2 (bools_data ms)) (shaped_bools ns) (shaped_bools ms) (by
    rw [PyData.eqv, eqvAll_bools]
    exact k)
theorem rd_neBs (ns ms : List Bool) (h1 : SqL K H p (ns.map V.bl)) (h2 : SqL K H q (ms.map V.bl)) (k : Q (.bl (!decide (ns = ms))) H) : gNe K (.ref p) (.ref q) H Q :=
  rd_neD (.lst h1 (bools_data ns)) (.lst h2 (bools_data ms)) (shaped_bools ns) (shaped_bools ms) (by
    rw [PyData.eqv, eqvAll_bools]
    exact k)
end
theorem Led.fresh0 {H0 H : Hp} (L : Led H0 H []) : Led H0 H [] := L
/-- only what stands in front is kept -/
theorem Led.only {H0 H : Hp} {l : List (Addr × HO)} {x : Addr × HO} (L : Led H0 H (x :: l)) : Led H0 H [x] := L.sub (List.Sublist.cons_cons _ (List.nil_sublist _))
theorem Led.none {H0 H : Hp} {l : List (Addr × HO)} (L : Led H0 H l) : Led H0 H [] := L.sub (List.nil_sublist _)
end Tr
namespace Tr
open PySem PySem.Spec PyProof.Rows L2
section
variable {K : PySem.W.Frag} {H : Hp} {Q : VK} {p q : Addr} {ns : List Int}
theorem rd_eqLs (h1 : SqL K H p (ns.map V.int)) (h2 : SqL K H q (ns.map V.int)) (k : Q (.bl true) H) : gEq K (.ref p) (.ref q) H Q := rd_eqL h1 h2 (by
  rw [decide_eq_true rfl]
  exact k)
theorem rd_neLs (h1 : SqL K H p (ns.map V.int)) (h2 : SqL K H q (ns.map V.int)) (k : Q (.bl false) H) : gNe K (.ref p) (.ref q) H Q := rd_neL h1 h2 (by
  rw [decide_eq_true rfl]
  exact k)
end
/-- a plain «if c: x = v» -/
theorem if_asg {c : Prop} [Decidable c] {v w : V} {i : Nat} {D : Ends} {σ : L2.St} {H : Hp} (hw : σ[i]? = some (some w)) (h : D.nx (σ.set i (some (if c then v else w))) H) : if decide c = true then tAsg (tC v) (gName i) D σ H else tNext D σ H := by
  refine ited (fun hc => ?_) (fun hc => ?_)
  · rw [if_pos hc] at h
    exact h
  · rw [if_neg hc] at h
    have e : σ.set i (some w) = σ := by
      apply List.ext_getElem?
      intro j
      rw [List.getElem?_set]
      by_cases hj : i = j
      · subst hj
        rw [if_pos rfl, if_pos (List.getElem?_eq_some_iff.mp hw).1, hw]
      · rw [if_neg hj]
    rw [e] at h
    exact h
end Tr
namespace Tr
open PySem PySem.Spec PyProof.Rows L2
/-- an if whose ways come together: N is what stands behind it -/
theorem if_two {c : Prop} [Decidable c] {t u : TS} {D : Ends} {σ : L2.St} {H : Hp} (N : L2.St → Hp → Prop) (h0 : ∀ σ H, N σ H → D.nx σ H)
    (h1 : ∀ nx' : L2.St → Hp → Prop, (∀ σ H, N σ H → nx' σ H) → c → t { D with nx := nx' } σ H) (h2 : ∀ nx' : L2.St → Hp → Prop, (∀ σ H, N σ H → nx' σ H) → ¬ c → u { D with nx := nx' } σ H) : if decide c = true then t D σ H else u D σ H :=
  ited (fun c => h1 D.nx h0 c) (fun c => h2 D.nx h0 c)
/-- a statement behind which N stands -/
theorem st_cut {t : TS} {D : Ends} {σ : L2.St} {H : Hp} (N : L2.St → Hp → Prop) (h0 : ∀ σ H, N σ H → D.nx σ H) (h1 : ∀ nx' : L2.St → Hp → Prop, (∀ σ H, N σ H → nx' σ H) → t { D with nx := nx' } σ H) : t D σ H := h1 D.nx h0
/-! ### index, backwards -/
section
variable {H0 H : Hp} {l : List (Addr × HO)} {Q : VK} {K : PySem.W.Frag} {a : Addr} {xs : List V} {σ : L2.St} {te : TE}
theorem idx_first {n : Int} : ∀ {ns : List Int}, n ∈ ns → ∃ j, j < ns.length ∧ ns[j]? = some n ∧ ∀ m z, m < j → ns[m]? = some z → z ≠ n
  | x :: r, h => by
    by_cases e : x = n
    · exact ⟨0, by simp, by simp [e], fun m z hm => absurd hm (Nat.not_lt_zero _)⟩
    · have h' : n ∈ r := by
        rcases List.mem_cons.mp h with h | h
        · exact absurd h.symm e
        · exact h
      obtain ⟨j, h1, h2, h3⟩ := idx_first h'
      refine ⟨j + 1, by simpa using h1, by simpa using h2, fun m z hm hz => ?_⟩
      cases m with
      | zero =>
        have : x = z := by simpa using hz
        subst this
        exact e
      | succ m => exact h3 m z (by omega) (by simpa using hz)
theorem rd_index {ns : List Int} {n : Int} (hs : SqL K H a (ns.map V.int)) (hn : n ∈ ns) (k : ∀ j : Nat, j < ns.length → ns[j]? = some n → (∀ m z, m < j → ns[m]? = some z → z ≠ n) → Q (.int j) H) : rIndex K (.ref a) [.int n] H Q := by
  obtain ⟨j, h1, h2, h3⟩ := idx_first hn
  refine ⟨a, ns.map V.int, .int n, j, .int n, rfl, rfl, hs, rfl, ?_, ?_, ?_, ?_, k j h1 h2 h3⟩
  · rw [List.all_map]
    exact List.all_eq_true.mpr fun _ _ => rfl
  · rw [List.getElem?_map, h2]
    rfl
  · show (n == n) = true
    simp
  · intro m z' hm hz
    rw [List.getElem?_map] at hz
    cases e : ns[m]? with
    | none => rw [e] at hz; cases hz
    | some z =>
      rw [e] at hz
      cases hz
      have := h3 m z hm e
      show (z == n) = false
      simpa using this
def revL1 (K : PySem.W.Frag) (x : V) (H : Hp) (Q : VK) : Prop := ∃ a xs, x = .ref a ∧ SqL K H a xs ∧ ∀ p, H p = none → Q (.ref p) (upd H p (.lst xs.reverse))
theorem rd_revL (h : te σ H fun x H1 => revL1 K x H1 Q) : tRevL K te σ H Q := h
theorem rd_revL1 (L : Led H0 H l) (hs : SqL K H a xs) (k : ∀ p H', Led H0 H' ((p, .lst xs.reverse) :: l) → Ts H H' → Q (.ref p) H') : revL1 K (.ref a) H Q := ⟨a, xs, rfl, hs, fun p hp => k p _ (L.push hp) (Ts.of (Same.push hp))⟩
end
end Tr
namespace Tr
open PySem PySem.Spec PyProof.Rows L2
section
variable {H0 H : Hp} {l : List (Addr × HO)} {Q : VK} {K : PySem.W.Frag} {a : Addr} {σ : L2.St} {te : TE} {g : TG} {tt : TT} {vs : List Nat}
/-- a list of what f tells of each item -/
def mapI (H0 H : Hp) (l : List (Addr × HO)) (ns : List Int) (f : Int → V) (D : Addr) (i : Nat) (H2 : Hp) : Prop := Led H0 H2 ((D, .lst ((ns.take i).map f)) :: l) ∧ Ts H H2
theorem rd_mapIEnd {ns : List Int} {f : Int → V} {i : Nat} {n : Int} {D : Addr} {H3 : Hp} (l' : List (Addr × HO)) (L : Led H0 H3 (l' ++ (D, .lst ((ns.take i).map f)) :: l)) (t : Ts H H3) (hn : ns[i]? = some n) (hi : i < 1000000) {y : V} (e : y = f n) : put1 D (mapI H0 H l ns f D (i + 1)) y H3 := by
  subst e
  refine rd_put1 L.drop1 0 rfl (by rw [List.length_map, List.length_take]; exact szl (m := i) (Nat.min_le_left _ _)) fun H5 L5 t5 => ⟨L5.to ?_, t.trans t5⟩
  rw [List.take_add_one, hn, List.map_append]
  rfl
theorem lc_mapI {ns : List Int} (f : Int → V) (L : Led H0 H l) (hS : ∀ H1, Ts H H1 → Same H0 H1 → (∀ l1, Led H0 H1 (l1 ++ l) → SqL K H1 a (ns.map V.int)))
    (hs : ∀ i n D H1, ns[i]? = some n → Led H0 H1 ((D, .lst ((ns.take i).map f)) :: l) → Ts H H1 → g (.int n) (wipe σ vs) H1 fun σ2 H2 => wipe σ2 vs = wipe σ vs ∧ tt σ2 H2 fun b H3 => if b = true then te σ2 H3 (put1 D (mapI H0 H l ns f D (i + 1))) else mapI H0 H l ns f D (i + 1) H3)
    (hd : ∀ D H1, Led H0 H1 ((D, .lst (ns.map f)) :: l) → Ts H H1 → Q (.ref D) H1) : lc (Itl K a) g tt te vs σ H Q := by
  refine lc_lst (xs := ns.map V.int) L fun D H1 L1 t1 => ⟨mapI H0 H l ns f D, ⟨L1, t1⟩, fun i H2 _ ⟨L2, t2⟩ => hS H2 t2 L2.same [_] L2, fun i x H2 hx ⟨L2, t2⟩ => ?_, fun H2 ⟨L2, t2⟩ => hd D H2 (L2.to (by rw [List.length_map, List.take_length])) t2⟩
  rw [List.getElem?_map] at hx
  cases e : ns[i]? with
  | none => rw [e] at hx; cases hx
  | some n =>
    rw [e] at hx
    cases hx
    exact hs i n D H2 e L2 t2
end
end Tr
/-! list(reversed(x)), x a list or a tuple. -/
namespace Tr
open PySem PySem.Spec PyProof.Rows L2 RT
theorem tup_at {h h' : Heap} {a : Addr} {items : Array Value} (x : IsTup h a items) (k : ∀ o, h.get? a = some o → h'.get? a = some o) : IsTup h' a items := let ⟨o, e, r⟩ := x; ⟨o, k o e, r⟩
section
variable {prog : Program} {w : World} {A : Around} {E : Value → Shared → Prop} {s : Shared}
theorem rt_nolen : typeLookup (.type "reversed") "__len__" = pure none := by rw [typeLookup_type, builtinLookup_eq_fast]; kernel_rfl
theorem rt_hint : typeLookup (.type "reversed") "__length_hint__" = pure (some (.builtin "reversed.__length_hint__")) := by rw [typeLookup_type, builtinLookup_eq_fast]; kernel_rfl
theorem rt_hint_slot : Slot "reversed" "__length_hint__" "reversed.__length_hint__" :=
  .of (owner := "reversed") (n := "__length_hint__") rt_hint (by decide +kernel) (by decide +kernel) (by decide +kernel)
    (by first | exact .inl (by decide +kernel) | exact .inr (by decide +kernel)) (by rw [isSubtype_type]; kernel_rfl)
theorem rt_hint_entry : entryFor table "reversed.__length_hint__" = some Builtin.«reversed.__length_hint__» := entryFor_of_tree (by kernel_rfl)
theorem rt_hint_args (a : Value) : argsOk "reversed.__length_hint__" ⟨[a], []⟩ := by
  unfold argsOk; rw [signature?_of (id := "reversed.__length_hint__") (n := "__length_hint__".toList.reverse) (o := "reversed".toList.reverse) (by kernel_rfl) owner_rt]; kernel_rfl
theorem rt_hint_call {I t : Addr} {items : Array Value} {Q : Value → Shared → Prop} (hit : IsRt s.heap I t ((items.size : Int) - 1)) (ht : IsTup s.heap t items) (hn : items.size ≤ sizeLine)
    (h : ∀ tk u, Q (.int items.size u) { s with toks := tk }) : wpAny (model prog w) A (call (.builtin "reversed.__length_hint__") [.ref I]) Q E s := by
  obtain ⟨o, ho, hc, hd⟩ := id hit
  rw [sizeLine_eq] at hn
  refine wpAny_call_entry rt_hint_slot hit.typeIs rt_hint_entry ?_ (rt_hint_args _)
  unfold Builtin.«reversed.__length_hint__»
  refine wpAny_bind (wpAny_of_eq (a := Value.ref I) rfl ?_)
  refine wpAny_bind (wpAny_field ho hd (x := .ref t) rfl ?_)
  rw [if_neg (by simp)]
  refine wpAny_bind (len_tuple ht (by omega) ?_)
  refine wpAny_bind (wpAny_of_eq (a := some (items.size : Int)) rfl ?_)
  show wpAny _ _ (field (.ref I) 1 >>= _) _ _ _
  refine wpAny_bind (wpAny_field (s := { s with toks := s.toks + 1 + 1 }) ho hd (x := rawInt ((items.size : Int) - 1)) rfl ?_)
  show wpAny _ _ (if (items.size : Int) < (items.size : Int) - 1 + 1 then _ else _) _ _ _
  rw [if_neg (by omega)]
  have e : (items.size : Int) - 1 + 1 = items.size := by omega
  rw [e]
  refine wpAny_bind (wpAny_mkInt (wpAny_pure ⟨_, rfl, h _ _⟩))
theorem hint_tail {n : Nat} {Q : Bool → Shared → Prop} {u : Tok} {F : Option Int → Sem Bool} (h : wpAny (model prog w) A (F (some (n : Int))) Q E s) : wpAny (model prog w) A (asInt? (.int n u) >>= F) Q E s := wpAny_bind (wpAny_of_eq (a := some (n : Int)) rfl h)
theorem rt_hint_of {I t : Addr} {items : Array Value} {Q : Bool → Shared → Prop} (hit : IsRt s.heap I t ((items.size : Int) - 1)) (ht : IsTup s.heap t items) (hn : items.size ≤ sizeLine)
    (h : ∀ tk b, Q b { s with toks := tk }) : wpAny (model prog w) A (Builtin.List.listLengthHint (.ref I)) Q E s := by
  have hT := hit.typeIs
  have hn' := hn
  rw [sizeLine_eq] at hn'
  unfold Builtin.List.listLengthHint
  refine wpAny_bind (wpAny_specialOf hT rt_nolen ?_)
  show wpAny _ A (specialOf (Value.ref I) (Str.ofString "__length_hint__") >>= _) _ _ _
  refine wpAny_bind (wpAny_specialOf hT rt_hint ?_)
  generalize hid : ("reversed.__length_hint__" : String) = id0
  wp_delta
  rw [show splitId id0 = some ("reversed", "__length_hint__") from by subst hid; decide +kernel]
  subst hid
  refine wpAny_bind (wpAny_isInstance (b := true) hT (by rw [isSubtype_type]; kernel_rfl) ?_)
  rw [if_neg (by decide)]
  show wpAny _ _ (rule "list.length-hint.hint" >>= _) _ _ _
  refine wpAny_bind (wpAny_rule ?_)
  refine wpAny_bind (wpAny_of_eq (rt_hint_slot.bind _) ?_)
  refine wpAny_bind (wpAny_attempt (rt_hint_call hit ht hn fun tk u => ?_))
  show wpAny _ _ (asInt? (.int items.size u) >>= _) _ _ _
  refine hint_tail ?_
  have f1 : Builtin.List.listFitsIndex (items.size : Int) = true := fitsIndex_both (by omega) (by omega)
  have f2 : Builtin.List.listTooLong (items.size : Int).toNat = false := notLongL (by rw [Int.toNat_natCast]; exact hn)
  show wpAny _ _ (if (!Builtin.List.listFitsIndex (items.size : Int)) = true then _ else _) _ _ _
  rw [if_neg (by rw [f1]; decide)]
  show wpAny _ _ (if (items.size : Int) < 0 then _ else _) _ _ _
  rw [if_neg (by omega)]
  show wpAny _ _ (if Builtin.List.listTooLong (items.size : Int).toNat = true then _ else _) _ _ _
  rw [if_neg (by rw [f2]; decide)]
  exact wpAny_pure (h _ _)
/-! list(it) -/
/-- the loop that fills a new list -/
theorem fill_new {I l : Addr} {n : Nat} {P : Nat → Value → Prop} {St : Nat → Heap → Prop} {R : Result → Shared → Prop} (W : Walks prog w A.in1 I [I, l] [I] n P St) (hn : n ≤ sizeLine) {S : Addr} {s : Shared} {c : Nat} (hSI : S ≠ I) (hSl : S ≠ l) (hst : St 0 s.heap) (hS : s.heap.get? S = some { cls := .type "list", data := .seq #[] c })
    (hR : ∀ h' tk acc c', (∀ b o, b ≠ S → b ≠ I → s.heap.get? b = some o → h'.get? b = some o) → h'.get? S = some { cls := .type "list", data := .seq acc c' } → ItemsOf P acc n → R (.ok (.ret .none)) { s with heap := h', toks := tk }) :
    codeAny (model prog w) A (.builtin "list.extend.loop" ⟨[.ref S, .ref I, .none], []⟩) R s := by
  have hSf : S ∉ [I, l] := by simp [hSI, hSl]
  refine codeAny_extend_loopS W.toS hn S hSf .none n 0 s #[] c rfl (Nat.zero_le _) hst hS (ItemsOf.nil P) fun s' acc c' hm hS' hacc => ?_
  rw [Moved.eq_with hm]
  refine hR s'.heap s'.toks acc c' (fun b o h1 h2 e => hm.heap b o (fun hb => ?_) e) hS' hacc
  rcases List.mem_cons.mp hb with z | z
  · exact h1 z
  · exact h2 (List.mem_singleton.mp z)
/-- list.__init__ of a new list at S, from an iterator -/
theorem init_of_it {I l : Addr} {n : Nat} {P : Nat → Value → Prop} {St : Nat → Heap → Prop} {R : Result → Shared → Prop} {T : String} (W : Walks prog w A.in1 I [I, l] [I] n P St) (hn : n ≤ sizeLine) {S : Addr} {s : Shared} (hSI : S ≠ I) (hSl : S ≠ l) (hst : St 0 s.heap)
    (hS : s.heap.get? S = some { cls := .type "list", data := .seq #[] }) (hT : ∀ s : Shared, St 0 s.heap → s.TypeIs (.ref I) T) (t1 : (Value.type T == Value.type "list") = false) (t2 : (Value.type T == Value.type "tuple") = false)
    (hint : ∀ (s : Shared) (Q : Bool → Shared → Prop) (E : Value → Shared → Prop), St 0 s.heap → (∀ tk b, Q b { s with toks := tk }) → wpAny (model prog w) A.in1 (Builtin.List.listLengthHint (.ref I)) Q E s)
    (hR : ∀ h' tk acc c', (∀ b o, b ≠ S → b ≠ I → s.heap.get? b = some o → h'.get? b = some o) → h'.get? S = some { cls := .type "list", data := .seq acc c' } → ItemsOf P acc n → R (.ok (.ret .none)) { s with heap := h', toks := tk }) :
    wpAny (model prog w) A.in1 (Builtin.«list.__init__» ⟨[.ref S, .ref I], []⟩)
      (fun fin s' => match fin with | .done f => R (.ok f) s' | .again c' => c'.quiet = true ∧ codeAny (model prog w) A c' R s') (fun e s' => R (.error e) s') s := by
  show wpAny _ _ (do let old ← Builtin.List.listItems (.ref S); Builtin.List.listUpdate (.ref S) (fun _ => #[]); letGo old.toList.reverse; Builtin.List.listExtendWith (.ref S) (.ref I) .none) _ _ s
  refine wpAny_bind ?_
  unfold Builtin.List.listItems
  refine wpAny_bind (wpAny_seqItems hS rfl (wpAny_pure ?_))
  show wpAny _ _ (updateSeq S (fun _ => #[]) >>= fun _ => letGo (#[] : Array Value).toList.reverse >>= fun _ => Builtin.List.listExtendWith (.ref S) (.ref I) .none) _ _ s
  refine wpAny_bind (wpAny_updateSeq hS rfl ?_)
  have hS2 := Heap.get?_update_self (Obj.mapSeq (fun _ => (#[] : Array Value))) hS rfl
  have oth : ∀ b o, b ≠ S → s.heap.get? b = some o → (s.heap.update S (Obj.mapSeq (fun _ => (#[] : Array Value)))).get? b = some o :=
    fun b o hb e => (Heap.get?_update_other _ _ (Ne.symm hb)).trans e
  refine wpAny_bind (wpAny_letGo ?_)
  generalize hs2 : s.heap.update S (Obj.mapSeq (fun _ => (#[] : Array Value))) = h2 at hS2 oth ⊢
  have st2 : St 0 h2 := W.frame 0 _ _ hst fun b hb o e => oth b o (fun z => by
    subst z
    rcases List.mem_cons.mp hb with z | z
    · exact hSI z
    · exact hSl (List.mem_singleton.mp z)) e
  unfold Builtin.List.listExtendWith
  refine wpAny_bind (wpAny_typeOf (hT { s with heap := h2 } st2) ?_)
  have g1 : Builtin.List.listSameRef (.ref S) (.ref I) = false := by simp [Builtin.List.listSameRef, hSI]
  rw [if_neg (by rw [g1, t1, t2]; decide)]
  refine wpAny_bind (W.self 0 { s with heap := h2 } _ _ st2 ?_)
  refine wpAny_bind (wpAny_holding (hint { s with heap := h2 } _ _ st2 fun tk b => ?_))
  have fin : ∀ (h : Heap) (c : Nat), (∀ b o, b ≠ S → h2.get? b = some o → h.get? b = some o) → h.get? S = some { cls := .type "list", data := .seq #[] c } →
      codeAny (model prog w) A (.builtin "list.extend.loop" ⟨[.ref S, .ref I, .none], []⟩) R { s with heap := h, toks := tk } := by
    intro h c hk hSh
    refine fill_new W hn hSI hSl (s := { s with heap := h, toks := tk }) (W.frame 0 _ _ st2 fun b hb o e => hk b o (fun z => by
      subst z
      rcases List.mem_cons.mp hb with z | z
      · exact hSI z
      · exact hSl (List.mem_singleton.mp z)) e) hSh fun h' tk' acc c' k1 k2 k3 => ?_
    exact hR h' tk' acc c' (fun b o n1 n2 e => k1 b o n1 n2 (hk b o n1 (oth b o n1 e))) k2 k3
  refine wpAny_ite_split (fun _ => ?_) (fun _ => wpAny_pure ⟨plainId_quiet F.plain_extend_loop _, fin _ _ (fun _ _ _ e => e) hS2⟩)
  refine wpAny_bind (wpAny_rule ?_)
  refine wpAny_bind ?_
  show wpAny _ _ (updateSeq S (·.push .none) >>= fun _ => updateSeq S (·.pop)) _ _ _
  refine wpAny_bind (wpAny_updateSeq (s := { s with heap := h2, toks := tk }) hS2 rfl ?_)
  have hS3 := Heap.get?_update_self (Obj.mapSeq (·.push Value.none)) hS2 rfl
  refine wpAny_updateSeq (hz := by seq_fits) hS3 rfl ?_
  have hS4 := Heap.get?_update_self (Obj.mapSeq (·.pop)) hS3 rfl
  exact wpAny_pure ⟨plainId_quiet F.plain_extend_loop _, fin _ _ (fun b o hb e => (Heap.get?_update_other _ _ (Ne.symm hb)).trans ((Heap.get?_update_other _ _ (Ne.symm hb)).trans e)) hS4⟩
/-- list(it) -/
theorem call_list_it {I l : Addr} {n : Nat} {P : Nat → Value → Prop} {St : Nat → Heap → Prop} {T : String} {Q : Value → Shared → Prop} (W : Walks prog w A.in1.in1 I [I, l] [I] n P St) (hn : n ≤ sizeLine) (hI : I < s.heap.objs.size) (hl : l < s.heap.objs.size) (hst : St 0 s.heap)
    (hT : ∀ s : Shared, St 0 s.heap → s.TypeIs (.ref I) T) (t1 : (Value.type T == Value.type "list") = false) (t2 : (Value.type T == Value.type "tuple") = false)
    (hint : ∀ (s : Shared) (Q : Bool → Shared → Prop) (E : Value → Shared → Prop), St 0 s.heap → (∀ tk b, Q b { s with toks := tk }) → wpAny (model prog w) A.in1.in1 (Builtin.List.listLengthHint (.ref I)) Q E s)
    (hQ : ∀ h' tk acc c', (∀ b o, b ≠ I → s.heap.get? b = some o → h'.get? b = some o) → h'.get? s.heap.objs.size = some { cls := .type "list", data := .seq acc c' } → ItemsOf P acc n → Q (.ref s.heap.objs.size) { s with heap := h', toks := tk }) :
    wpAny (model prog w) A (call (.type "list") [.ref I]) Q E s := by
  refine callType_codes (Q₁ := fun obj s₁ => obj = .ref s.heap.objs.size ∧ s₁ = { s with heap := s.heap.push { cls := .type "list", data := .seq #[] } }) F.called_list (F.typeCall_list_1 _) F.entry_list_init
    (code_list_new _ ⟨rfl, rfl⟩) fun obj s₁ h₁ => ?_
  obtain ⟨rfl, rfl⟩ := h₁
  have hS : (s.heap.push { cls := .type "list", data := .seq #[] }).get? s.heap.objs.size = some { cls := .type "list", data := .seq #[] } := Heap.get?_push_size _ rfl
  have hSI : s.heap.objs.size ≠ I := Nat.ne_of_gt hI
  have hSl : s.heap.objs.size ≠ l := Nat.ne_of_gt hl
  refine ⟨⟨_, hS, rfl⟩, F.args_list_init_2 _ _, init_of_it (A := A.in1) W hn hSI hSl (W.frame 0 _ _ hst fun b _ o e => Heap.get?_push_of_some _ e) hS hT t1 t2 hint fun h' tk acc c' hk hS' hacc => ?_⟩
  exact ⟨rfl, hQ h' tk acc c' (fun b o hb e => hk b o (Nat.ne_of_lt (Heap.lt_size e)) hb (Heap.get?_push_of_some _ e)) hS' hacc⟩
/-- what reversed(a tuple) walks -/
theorem walks_rt (hh : A.handled = none) (I t : Addr) (hne : t ≠ I) (items : Array Value) (hn : items.size ≤ sizeLine) :
    Walks prog w A I [I, t] [I] items.size (fun i v => items[items.size - 1 - i]? = some v) (fun i h => i ≤ items.size ∧ RT.IsRt h I t ((items.size : Int) - 1 - (i : Int)) ∧ IsTup h t items) where
  sub := by intro b hb; simp at hb; simp [hb]
  frame := by
    rintro _ h h' ⟨x1, x2, x3⟩ hk
    exact ⟨x1, x2.at (hk I (by simp)), tup_at x3 (hk t (by simp))⟩
  item := by
    rintro i s Q E hi ⟨_, x2, x3⟩ hQ
    have e1 : (items.size : Int) - 1 - (i : Int) = ((items.size - 1 - i : Nat) : Int) := by omega
    rw [e1] at x2
    have hx : items[items.size - 1 - i]? = some (items[items.size - 1 - i]'(by omega)) := Array.getElem?_eq_getElem (by omega)
    refine RT.next_rt_item x2 x3 hx hn fun h' y sb => ?_
    have e2 : ((items.size - 1 - i : Nat) : Int) - 1 = (items.size : Int) - 1 - ((i + 1 : Nat) : Int) := by omega
    rw [e2] at y
    exact hQ _ h' (s.toks + 1) hx ⟨hi, y, tup_at x3 fun o eo => (sb.2 t hne).trans eo⟩ fun b o hb eo => (sb.2 b (fun z => hb (by simp [z]))).trans eo
  done := by
    rintro s Q E ⟨_, x2, x3⟩ hQ
    have e1 : (items.size : Int) - 1 - (items.size : Int) = -1 := by omega
    rw [e1] at x2
    exact RT.next_rt_end hh x2 fun h' k => hQ h' s.toks fun b o hb eo => k b o (fun z => hb (by simp [z])) eo
  self := fun _ _ _ _ x hQ => RT.iter_rt x.2.1 hQ

theorem lri_hint_of {I l : Addr} {i : Int} {Q : Bool → Shared → Prop} (hit : s.heap.IsRevIter I l i) (h : ∀ tk b, Q b { s with toks := tk }) : wpAny (model prog w) A (Builtin.List.listLengthHint (.ref I)) Q E s := by
  have hT : s.TypeIs (.ref I) "list_reverseiterator" := hit.typeIs
  unfold Builtin.List.listLengthHint
  refine wpAny_bind (wpAny_specialOf hT nolen_lri ?_)
  show wpAny _ A (specialOf (Value.ref I) (Str.ofString "__length_hint__") >>= _) _ _ _
  refine wpAny_bind (wpAny_specialOf hT hint_lri ?_)
  generalize hid : ("list_reverseiterator.__length_hint__" : String) = id0
  wp_delta
  rw [show splitId id0 = some ("list_reverseiterator", "__length_hint__") from by subst hid; decide +kernel]
  subst hid
  refine wpAny_bind (wpAny_isInstance (b := true) hT (by rw [isSubtype_type]; kernel_rfl) ?_)
  refine wpAny_pure ?_
  exact h s.toks _
theorem call_list_lri {I l : Addr} {items : Array Value} {Q : Value → Shared → Prop} (hh : A.handled = none) (hit : s.heap.IsRevIter I l ((items.size : Int) - 1)) (hl : s.heap.IsList l items) (hne : l ≠ I) (hn : items.size ≤ sizeLine)
    (hQ : ∀ h' tk acc c', (∀ b o, b ≠ I → s.heap.get? b = some o → h'.get? b = some o) → h'.get? s.heap.objs.size = some { cls := .type "list", data := .seq acc c' } → ItemsOf (fun i v => items[items.size - 1 - i]? = some v) acc items.size → Q (.ref s.heap.objs.size) { s with heap := h', toks := tk }) :
    wpAny (model prog w) A (call (.type "list") [.ref I]) Q E s := by
  obtain ⟨oi, hoi, _⟩ := id hit
  obtain ⟨ol, hol, _⟩ := id hl
  have e0 : ((items.size : Nat) : Int) - 1 - ((0 : Nat) : Int) = (items.size : Int) - 1 := by omega
  refine call_list_it (T := "list_reverseiterator") (Walks.listRev (prog := prog) (w := w) (A := A.in1.in1) hh I l hne items) hn (Heap.lt_size hoi) (Heap.lt_size hol) ⟨Nat.zero_le _, by rw [e0]; exact hit, hl⟩ (fun s x => x.2.1.typeIs) (by decide) (by decide) (fun s Q E x h => ?_) hQ
  exact lri_hint_of x.2.1 h
theorem call_list_rt {I l : Addr} {items : Array Value} {Q : Value → Shared → Prop} (hh : A.handled = none) (hit : IsRt s.heap I l ((items.size : Int) - 1)) (hl : IsTup s.heap l items) (hne : l ≠ I) (hn : items.size ≤ sizeLine)
    (hQ : ∀ h' tk acc c', (∀ b o, b ≠ I → s.heap.get? b = some o → h'.get? b = some o) → h'.get? s.heap.objs.size = some { cls := .type "list", data := .seq acc c' } → ItemsOf (fun i v => items[items.size - 1 - i]? = some v) acc items.size → Q (.ref s.heap.objs.size) { s with heap := h', toks := tk }) :
    wpAny (model prog w) A (call (.type "list") [.ref I]) Q E s := by
  obtain ⟨oi, hoi, _⟩ := id hit
  obtain ⟨ol, hol, _⟩ := id hl
  have e0 : ((items.size : Nat) : Int) - 1 - ((0 : Nat) : Int) = (items.size : Int) - 1 := by omega
  refine call_list_it (T := "reversed") (walks_rt (prog := prog) (w := w) (A := A.in1.in1) hh I l hne items hn) hn (Heap.lt_size hoi) (Heap.lt_size hol) ⟨Nat.zero_le _, by rw [e0]; exact hit, hl⟩ (fun s x => x.2.1.typeIs) (by decide) (by decide) (fun s Q E x h => ?_) hQ
  have y := x.2.1
  rw [e0] at y
  exact rt_hint_of y x.2.2 hn h
end
/-- list(reversed(x)), x a list or a tuple: a new list -/
def tListRev (K : PySem.W.Frag) (te : TE) : TE := fun σ H Q => te σ H fun v H1 => ∃ (a : Addr) (xs : List V), v = .ref a ∧ (SqL K H1 a xs ∨ SqT K H1 a xs) ∧ ∀ q, H1 q = none → Q (.ref q) (upd H1 q (.lst xs.reverse))
theorem pe_listRev {X : Cx} {e : Expr} {te : TE} {p p2 pos pos2 : Pos} (hc : X.calm = true) (hg : Gl X "list") (hm : X.mg "list" = none) (hg2 : Gl X "reversed") (hm2 : X.mg "reversed" = none) (he : PE X e te)
    (hs : starEach [e] X.env = (false, eval e X.env) :: starEach [] X.env := by rfl)
    (hs2 : starEach [.Call (.Name "reversed" p2) [e] [] pos2] X.env = (false, eval (.Call (.Name "reversed" p2) [e] [] pos2) X.env) :: starEach [] X.env := by rfl) :
    PE X (.Call (.Name "list" p) [.Call (.Name "reversed" p2) [e] [] pos2] [] pos) (tListRev X.K te) := by
  refine ⟨fun pins s σ H Q I h => ?_⟩
  refine Call_ (ld_blt I hg hm boot_list (PyProof.Rows.callWith_type1 (args_cons (Call_ (ld_blt I hg2 hm2 PyProof.Rows.boot_reversed (PyProof.Rows.callWith_type1 (args_cons (thn (he.run pins s σ H _ I h) fun u s1 ⟨v, H1, I1, r1, q1⟩ => args_nil ?_) hs) hs rfl))) hs2) hs2 rfl))
  obtain ⟨a, xs, ev, hq, q⟩ := q1
  subst ev
  obtain rfl : u = Value.ref a := r1
  rcases hq with hq | hq
  · obtain ⟨its, rv, p', hz⟩ := I1.list hq
    refine call_reversed_list p'.isList (args_nil ?_)
    have k0 : ∀ b o, s1.heap.get? b = some o → (s1.heap.push (revObj a ((its.toArray.size : Int) - 1))).get? b = some o := fun b o e => Heap.get?_push_of_some _ e
    have hl := p'.isList
    obtain ⟨ol, hol, _⟩ := id hl
    have hne : a ≠ s1.heap.objs.size := Nat.ne_of_lt (Heap.lt_size hol)
    have hn : its.toArray.size ≤ sizeLine := by rw [List.size_toArray, ← rv.length]; exact hz
    refine call_list_lri (s := { s1 with heap := s1.heap.push (revObj a ((its.toArray.size : Int) - 1)) }) (I1.ok.hd hc) ⟨_, Heap.get?_push_size _ rfl, rfl, rfl⟩ (hl.push _) hne hn fun h' tk acc c' hk e' hi => ?_
    have hge : s1.heap.objs.size ≤ (s1.heap.push (revObj a ((its.toArray.size : Int) - 1))).objs.size := by
      have := Heap.lt_size (Heap.get?_push_size s1.heap (show (revObj a ((its.toArray.size : Int) - 1)).isFreed = false from rfl))
      exact Nat.le_of_lt this
    refine ⟨.ref _, upd H1 _ (.lst xs.reverse), I1.laid (t' := tk) (fun c o e => hk c o (Nat.ne_of_lt (Heap.lt_size e)) (k0 c o e)) hge (show ObjOk X.prog X.w _ _ _ (.lst xs.reverse) from ⟨by rw [List.length_reverse]; exact hz, acc.toList, c', RT.vals_rev rv hi, ?_⟩), rfl, q _ (I1.hok.fresh hge)⟩
    rw [Array.toArray_toList]
    exact e'
  · obtain ⟨its, rv, p', hz⟩ := I1.tuple hq
    have hl := rv.length
    have hn := line63
    have k0 : ∀ b o, s1.heap.get? b = some o → (s1.heap.push (rtObj a ((its.toArray.size : Int) - 1))).get? b = some o := fun b o e => Heap.get?_push_of_some _ e
    have hol := p'
    obtain ⟨ol, hol, _⟩ := id hol
    have hne : a ≠ s1.heap.objs.size := Nat.ne_of_lt (Heap.lt_size hol)
    have hn2 : its.toArray.size ≤ sizeLine := by rw [List.size_toArray, ← rv.length]; exact hz
    refine call_reversed_tup p' (fun A E Q k => len_tuple p' (by simp only [List.size_toArray] <;> omega) k) (args_nil ?_)
    refine call_list_rt (s := { s1 with heap := s1.heap.push (rtObj a ((its.toArray.size : Int) - 1)), toks := s1.toks + 1 + 1 }) (I1.ok.hd hc) ⟨_, Heap.get?_push_size _ rfl, rfl, rfl⟩ (Tr.tup_at p' (k0 a)) hne hn2 fun h' tk acc c' hk e' hi => ?_
    have hge : s1.heap.objs.size ≤ (s1.heap.push (rtObj a ((its.toArray.size : Int) - 1))).objs.size := by
      have := Heap.lt_size (Heap.get?_push_size s1.heap (show (rtObj a ((its.toArray.size : Int) - 1)).isFreed = false from rfl))
      exact Nat.le_of_lt this
    refine ⟨.ref _, upd H1 _ (.lst xs.reverse), I1.laid (t' := tk) (fun c o e => hk c o (Nat.ne_of_lt (Heap.lt_size e)) (k0 c o e)) hge (show ObjOk X.prog X.w _ _ _ (.lst xs.reverse) from ⟨by rw [List.length_reverse]; exact hz, acc.toList, c', RT.vals_rev rv hi, ?_⟩), rfl, q _ (I1.hok.fresh hge)⟩
    rw [Array.toArray_toList]
    exact e'
def listRev1 (K : PySem.W.Frag) (x : V) (H : Hp) (Q : VK) : Prop := ∃ (a : Addr) (xs : List V), x = .ref a ∧ (SqL K H a xs ∨ SqT K H a xs) ∧ ∀ q, H q = none → Q (.ref q) (upd H q (.lst xs.reverse))
section
variable {te : TE} {σ : L2.St} {H H0 : Hp} {Q : VK} {K : PySem.W.Frag} {a : Addr} {xs : List V} {l : List (Addr × HO)}
theorem rd_listRev (h : te σ H fun x H1 => listRev1 K x H1 Q) : tListRev K te σ H Q := h
theorem rd_listRevL (L : Led H0 H l) (hs : SqL K H a xs) (k : ∀ p H', Led H0 H' ((p, .lst xs.reverse) :: l) → Ts H H' → Q (.ref p) H') : listRev1 K (.ref a) H Q := ⟨a, xs, rfl, .inl hs, fun p hp => k p _ (L.push hp) (Ts.of (Same.push hp))⟩
theorem rd_listRevT (L : Led H0 H l) (hs : SqT K H a xs) (k : ∀ p H', Led H0 H' ((p, .lst xs.reverse) :: l) → Ts H H' → Q (.ref p) H') : listRev1 K (.ref a) H Q := ⟨a, xs, rfl, .inr hs, fun p hp => k p _ (L.push hp) (Ts.of (Same.push hp))⟩
end
end Tr
namespace Tr
open PySem PySem.Spec PyProof.Rows L2
section
variable {H0 H : Hp} {l : List (Addr × HO)} {Q : VK} {K : PySem.W.Frag} {a : Addr} {σ : L2.St} {te : TE} {g : TG} {tt : TT} {vs : List Nat}
/-- what f tells of each item, backwards -/
theorem lc_revI {ns : List Int} (f : Int → V) (L : Led H0 H l) (hS : ∀ H1, Ts H H1 → Same H0 H1 → (∀ l1, Led H0 H1 (l1 ++ l) → SqL K H1 a (ns.map V.int)))
    (hs : ∀ i n D H1, ns.reverse[i]? = some n → Led H0 H1 ((D, .lst ((ns.reverse.take i).map f)) :: l) → Ts H H1 → g (.int n) (wipe σ vs) H1 fun σ2 H2 => wipe σ2 vs = wipe σ vs ∧ tt σ2 H2 fun b H3 => if b = true then te σ2 H3 (put1 D (mapI H0 H l ns.reverse f D (i + 1))) else mapI H0 H l ns.reverse f D (i + 1) H3)
    (hd : ∀ D H1, Led H0 H1 ((D, .lst (ns.reverse.map f)) :: l) → Ts H H1 → Q (.ref D) H1) : lc (Itv K a (ns.map V.int).length) g tt te vs σ H Q := by
  intro D hD
  have L1 := L.push (o := .lst []) hD
  have hn : (ns.map V.int).length = ns.length := List.length_map ..
  refine ⟨fun i m H2 => m = ns.length - i ∧ i ≤ ns.length ∧ mapI H0 H l ns.reverse f D i H2, ⟨ns.length, by simp, Nat.zero_le _, L1, Ts.of (Same.push hD)⟩, ?_⟩
  rintro i m H2 ⟨rfl, hi, p⟩
  have q : SqL K H2 a (ns.map V.int) := hS H2 p.2 p.1.same [_] p.1
  by_cases hlt : i < ns.length
  · have hj : ns.length - 1 - i < ns.length := by omega
    have hx : (ns.map V.int)[(ns.map V.int).length - 1 - i]? = some (.int (ns[ns.length - 1 - i]'hj)) := by
      rw [hn, List.getElem?_map, List.getElem?_eq_getElem hj]
      rfl
    have hr : ns.reverse[i]? = some (ns[ns.length - 1 - i]'hj) := by
      rw [List.getElem?_reverse hlt, List.getElem?_eq_getElem hj]
    refine .inr ⟨⟨by omega, _, _, q, hx⟩, mapI H0 H l ns.reverse f D (i + 1), fun H' p' => ⟨ns.length - (i + 1), by omega, rfl, hlt, p'⟩, fun x H' y => ?_⟩
    obtain ⟨e, y⟩ := y
    subst e
    have e2 := (hx.symm.trans (y _ q))
    cases e2
    exact hs i _ D _ hr p.1 p.2
  · have e : i = ns.length := by omega
    subst e
    exact .inl ⟨by show _ ≤ _; omega, hd D H2 (p.1.to (by rw [← List.length_reverse, List.take_length])) p.2⟩
end
end Tr
namespace Tr
open PySem PySem.Spec PyProof.Rows L2
section
variable {H0 H : Hp} {l : List (Addr × HO)} {σ : L2.St} {p : Addr} {xs : List V} {v : V}
theorem rd_gSub {to ti : TE} {t : TSet} {R : L2.St → Hp → Prop} (h : to σ H fun o H1 => ti σ H1 fun i H2 => t o i v H2 fun H3 => R σ H3) : L2.gSub to ti t v σ H R := h
theorem rd_setL {R : Hp → Prop} {j : Nat} (L : Led H0 H l) (i : Nat) (h : l[i]? = some (p, .lst xs)) (hj : j < xs.length) (k : ∀ H', Led H0 H' (l.set i (p, .lst (xs.set j v))) → Ts H H' → R H') : rSetL (.ref p) (.int j) v H R :=
  ⟨p, xs, j, j, rfl, rfl, L.get i h, by unfold ixN; rw [if_pos (by omega), if_pos (by omega)]; simp, k _ (L.put i h) (Ts.put (L.get i h))⟩
end
end Tr
namespace Tr
open PySem PySem.Spec PyProof.Rows L2
section
variable {H0 H : Hp} {l : List (Addr × HO)} {Q : VK} {K : PySem.W.Frag} {a : Addr} {σ : L2.St} {te : TE} {ta : TA} {g : TG} {tt : TT} {vs : List Nat} {R : It → Hp → Prop}
/-! ### enumerate -/
def itE (K : PySem.W.Frag) (vs : List V) (H : Hp) (R : It → Hp → Prop) : Prop := ∃ a xs, vs = [.ref a] ∧ SqL K H a xs ∧ R (Ite K a) H
theorem rd_iEnum (h : ta σ H fun vs H1 => itE K vs H1 R) : iEnum K ta σ H R := h
theorem rd_itE {xs : List V} (hs : SqL K H a xs) (h : R (Ite K a) H) : itE K [.ref a] H R := ⟨a, xs, rfl, hs, h⟩
theorem rd_gTup {n : Nat} {t : TGs} {xs : List V} {R : L2.St → Hp → Prop} (hs : SqT K H a xs) (hl : xs.length = n) (h : t xs σ H R) : gTup K n t (.ref a) σ H R := ⟨a, xs, rfl, hs, hl, h⟩
/-- what f tells of each place and item -/
def enumF (ns : List Int) (f : Nat → Int → V) (j : Nat) : V := f j (ns.getD j 0)
theorem lc_enum {ns : List Int} (f : Nat → Int → V) (L : Led H0 H l) (hS : ∀ H1, Ts H H1 → Same H0 H1 → (∀ l1, Led H0 H1 (l1 ++ l) → SqL K H1 a (ns.map V.int)))
    (hs : ∀ i n D T H1, ns[i]? = some n → Led H0 H1 ((T, .tup [.int (i : Nat), .int n]) :: (D, .lst ((List.range i).map (enumF ns f))) :: l) → Ts H H1 → g (.ref T) (wipe σ vs) H1 fun σ2 H2 => wipe σ2 vs = wipe σ vs ∧ tt σ2 H2 fun b H3 => if b = true then te σ2 H3 (put1 D (mapW H0 H l (enumF ns f) D (i + 1))) else mapW H0 H l (enumF ns f) D (i + 1) H3)
    (hd : ∀ D H1, Led H0 H1 ((D, .lst ((List.range ns.length).map (enumF ns f))) :: l) → Ts H H1 → Q (.ref D) H1) : lc (Ite K a) g tt te vs σ H Q := by
  intro D hD
  have L1 := L.push (o := .lst []) hD
  have hn : (ns.map V.int).length = ns.length := List.length_map ..
  refine ⟨fun i m H2 => m = ns.length - i ∧ i ≤ ns.length ∧ mapW H0 H l (enumF ns f) D i H2, ⟨ns.length, by simp, Nat.zero_le _, L1, Ts.of (Same.push hD)⟩, ?_⟩
  rintro i m H2 ⟨rfl, hi, p⟩
  have q : SqL K H2 a (ns.map V.int) := hS H2 p.2 p.1.same [_] p.1
  by_cases hlt : i < ns.length
  · have hx : (ns.map V.int)[i]? = some (.int (ns[i]'hlt)) := by
      rw [List.getElem?_map, List.getElem?_eq_getElem hlt]
      rfl
    refine .inr ⟨⟨_, _, q, hx⟩, mapW H0 H l (enumF ns f) D (i + 1), fun H' p' => ⟨ns.length - (i + 1), by omega, rfl, hlt, p'⟩, fun x H' y => ?_⟩
    obtain ⟨T, x', ev, hT, eH, y⟩ := y
    subst ev eH
    have e2 := hx.symm.trans (y _ q)
    cases e2
    exact hs i _ D T _ (List.getElem?_eq_getElem hlt) (p.1.push hT) (p.2.trans (Ts.of (Same.push hT)))
  · have e : i = ns.length := by omega
    subst e
    exact .inl ⟨⟨_, q, by rw [hn]; exact Nat.le_refl _⟩, hd D H2 p.1 p.2⟩
theorem rd_gTwo {R : L2.St → Hp → Prop} {i j : Nat} {x y : V} (L : Led H0 H l) (k : Nat) (hk : l[k]? = some (a, .tup [x, y])) (h : R ((σ.set i (some x)).set j (some y)) H) : gTup K 2 (gCons (gName i) (gCons (gName j) gNil)) (.ref a) σ H R :=
  rd_gTup (L.tq k hk) rfl ⟨x, [y], rfl, y, [], rfl, rfl, h⟩
end
end Tr
/-! What the law's helpers read off the script. -/
namespace Tr
def cell (ns : List Int) (k : Nat) : Int := ns.getD k 0
def rowCell (way c : Int) : Int :=
  if way = 0 then 1 - c % 3 else if way = 1 then [1, 1, 1, 0, -1, -2].getD (c % 6).toNat 0
  else if way = 2 then [1, 1, 1, 1, 1, 1 - c / 8 % 62, 0, 1].getD (c % 8).toNat 0 else 1 - c % 62
theorem rowCell_le (way c : Int) : rowCell way c ≤ 1 ∧ -60 ≤ rowCell way c := by
  unfold rowCell
  split
  · omega
  · split
    · have h : (c % 6).toNat < 6 := by omega
      generalize (c % 6).toNat = j at h
      match j, h with
      | 0, _ => decide
      | 1, _ => decide
      | 2, _ => decide
      | 3, _ => decide
      | 4, _ => decide
      | 5, _ => decide
    · split
      · have h : (c % 8).toNat < 8 := by omega
        generalize (c % 8).toNat = j at h
        have e : -60 ≤ 1 - c / 8 % 62 ∧ 1 - c / 8 % 62 ≤ 1 := by omega
        generalize 1 - c / 8 % 62 = z at e
        match j, h with
        | 0, _ => exact ⟨by show (1 : Int) ≤ 1; decide, by show (-60 : Int) ≤ 1; decide⟩
        | 1, _ => exact ⟨by show (1 : Int) ≤ 1; decide, by show (-60 : Int) ≤ 1; decide⟩
        | 2, _ => exact ⟨by show (1 : Int) ≤ 1; decide, by show (-60 : Int) ≤ 1; decide⟩
        | 3, _ => exact ⟨by show (1 : Int) ≤ 1; decide, by show (-60 : Int) ≤ 1; decide⟩
        | 4, _ => exact ⟨by show (1 : Int) ≤ 1; decide, by show (-60 : Int) ≤ 1; decide⟩
        | 5, _ => exact ⟨e.2, e.1⟩
        | 6, _ => exact ⟨by show (0 : Int) ≤ 1; decide, by show (-60 : Int) ≤ 0; decide⟩
        | 7, _ => exact ⟨by show (1 : Int) ≤ 1; decide, by show (-60 : Int) ≤ 1; decide⟩
      · omega
def rowBy (ns : List Int) (first count : Nat) (way : Int) : List Int := (List.range count).map fun k => rowCell way (cell ns (first + k))
theorem rowBy_len (ns : List Int) (first count : Nat) (way : Int) : (rowBy ns first count way).length = count := by
  unfold rowBy
  rw [List.length_map, List.length_range]
theorem rowBy_mem {ns : List Int} {first count : Nat} {way n : Int} (h : n ∈ rowBy ns first count way) : n ≤ 1 ∧ -60 ≤ n := by
  unfold rowBy at h
  obtain ⟨k, _, rfl⟩ := List.mem_map.mp h
  exact rowCell_le way _
def nodesOf (ns : List Int) : Nat := if cell ns 0 / 12 % 4 = 1 then 1 + (cell ns 0 / 48 % 60).toNat else 1 + (cell ns 0 % 12).toNat
theorem nodesOf_le (ns : List Int) : 1 ≤ nodesOf ns ∧ nodesOf ns ≤ 60 := by
  unfold nodesOf
  split <;> omega
def isRow (ns : List Int) : Prop := 1 ≤ ns.length ∧ ns.length ≤ 60 ∧ ∀ n ∈ ns, n ≤ 1 ∧ -60 ≤ n
instance (ns : List Int) : Decidable (isRow ns) := by
  unfold isRow
  infer_instance
theorem rowBy_row {ns : List Int} {first count : Nat} {way : Int} (h : 1 ≤ count ∧ count ≤ 60) : isRow (rowBy ns first count way) := by
  refine ⟨?_, ?_, fun n hn => rowBy_mem hn⟩
  · rw [rowBy_len]
    exact h.1
  · rw [rowBy_len]
    exact h.2
/-- the sums of the first, the first two .. -/
def sums (ns : List Int) : List Int := (List.range ns.length).map fun k => (ns.take (k + 1)).sum
theorem sums_len (ns : List Int) : (sums ns).length = ns.length := by
  unfold sums
  rw [List.length_map, List.length_range]
/-- turned by k -/
def turn (ns : List Int) (k : Nat) : List Int := ns.drop k ++ ns.take k
theorem turn_len {ns : List Int} {k : Nat} : (turn ns k).length = ns.length := by
  unfold turn
  rw [List.length_append, List.length_drop, List.length_take]
  omega
theorem turn_mem {ns : List Int} {k : Nat} {n : Int} (h : n ∈ turn ns k) : n ∈ ns := by
  unfold turn at h
  rcases List.mem_append.mp h with h | h
  · exact List.mem_of_mem_drop h
  · exact List.mem_of_mem_take h
end Tr
namespace Tr
/-- all beginnings are above nought -/
def goodB (ns : List Int) : Bool := (sums ns).all fun t => decide (1 ≤ t)
theorem goodB_iff {ns : List Int} : goodB ns = true ↔ ∀ k, k < ns.length → 1 ≤ (ns.take (k + 1)).sum := by
  unfold goodB sums
  rw [List.all_eq_true]
  constructor
  · intro h k hk
    exact of_decide_eq_true (h _ (List.mem_map.mpr ⟨k, List.mem_range.mpr hk, rfl⟩))
  · intro h t ht
    obtain ⟨k, hk, rfl⟩ := List.mem_map.mp ht
    exact decide_eq_true (h k (List.mem_range.mp hk))
theorem goodB_no {ns : List Int} {k : Nat} (hk : k < ns.length) (h : (ns.take (k + 1)).sum < 1) : goodB ns = false := by
  cases e : goodB ns with
  | false => rfl
  | true =>
    have := goodB_iff.mp e k hk
    omega
theorem sums_at {ns : List Int} {i : Nat} {t : Int} (h : (sums ns)[i]? = some t) : i < ns.length ∧ t = (ns.take (i + 1)).sum := by
  have hi : i < ns.length := by
    have := (List.getElem?_eq_some_iff.mp h).1
    rw [sums_len] at this
    exact this
  refine ⟨hi, ?_⟩
  unfold sums at h
  rw [List.getElem?_map, List.getElem?_range hi] at h
  exact (Option.some.inj h).symm
end Tr
namespace Tr
/-- the numbers by which a row is turned into a good one -/
def startsOf (ns : List Int) : List Nat := (List.range ns.length).filter fun k => goodB (turn ns k)
theorem turn_row {ns : List Int} {j : Nat} (h : isRow ns) : isRow (turn ns j) := by
  refine ⟨?_, ?_, fun n hn => h.2.2 n (turn_mem hn)⟩
  · rw [turn_len]
    exact h.1
  · rw [turn_len]
    exact h.2.1
end Tr
/-! Factorials and the number of lists with given counts. -/
namespace Tr
def fac : Nat → Nat
  | 0 => 1
  | n + 1 => (n + 1) * fac n
theorem fac_pos : ∀ n, 0 < fac n
  | 0 => Nat.one_pos
  | n + 1 => Nat.mul_pos (Nat.succ_pos n) (fac_pos n)
theorem fac_mono : ∀ {m n : Nat}, m ≤ n → fac m ≤ fac n := by
  intro m n h
  induction h with
  | refl => exact Nat.le_refl _
  | step h ih => exact Nat.le_trans ih (Nat.le_mul_of_pos_left _ (Nat.succ_pos _))
/-- ways through a net -/
def net : Nat → Nat → Nat
  | 0, _ => 1
  | _ + 1, 0 => 1
  | a + 1, b + 1 => net a (b + 1) + net (a + 1) b
theorem net_fac : ∀ a b, net a b * (fac a * fac b) = fac (a + b)
  | 0, b => by simp [net, fac]
  | a + 1, 0 => by simp [net, fac]
  | a + 1, b + 1 => by
    have h1 := net_fac a (b + 1)
    have h2 := net_fac (a + 1) b
    have e1 : a + 1 + (b + 1) = (a + b + 1) + 1 := by omega
    have e2 : a + (b + 1) = a + b + 1 := by omega
    have e3 : a + 1 + b = a + b + 1 := by omega
    rw [e2] at h1
    rw [e3] at h2
    rw [e1, show fac ((a + b + 1) + 1) = (a + b + 1 + 1) * fac (a + b + 1) from rfl]
    have t1 : net a (b + 1) * (fac (a + 1) * fac (b + 1)) = (a + 1) * fac (a + b + 1) := by
      rw [← h1, show fac (a + 1) = (a + 1) * fac a from rfl]
      simp only [Nat.mul_assoc, Nat.mul_left_comm]
    have t2 : net (a + 1) b * (fac (a + 1) * fac (b + 1)) = (b + 1) * fac (a + b + 1) := by
      rw [← h2, show fac (b + 1) = (b + 1) * fac b from rfl]
      simp only [Nat.mul_assoc, Nat.mul_left_comm]
    rw [net, Nat.add_mul, t1, t2, ← Nat.add_mul]
    congr 1
def prodF (cs : List Nat) : Nat := (cs.map fac).foldr (· * ·) 1
theorem prodF_cons (c : Nat) (cs : List Nat) : prodF (c :: cs) = fac c * prodF cs := rfl
theorem prodF_pos : ∀ cs : List Nat, 0 < prodF cs
  | [] => Nat.one_pos
  | c :: cs => Nat.mul_pos (fac_pos c) (prodF_pos cs)
def mul : List Nat → Nat
  | [] => 1
  | c :: cs => net c cs.sum * mul cs
theorem mul_fac : ∀ cs : List Nat, mul cs * prodF cs = fac cs.sum
  | [] => rfl
  | c :: cs => by
    rw [mul, prodF_cons, List.sum_cons, ← net_fac, ← mul_fac cs]
    simp only [Nat.mul_assoc, Nat.mul_left_comm, Nat.mul_comm]
theorem prodF_append : ∀ as bs : List Nat, prodF (as ++ bs) = prodF as * prodF bs
  | [], bs => by simp [prodF]
  | a :: as, bs => by rw [List.cons_append, prodF_cons, prodF_cons, prodF_append as bs, Nat.mul_assoc]
theorem mul_pos (cs : List Nat) : 0 < mul cs := by
  rcases Nat.eq_zero_or_pos (mul cs) with h | h
  · have e := mul_fac cs
    rw [h, Nat.zero_mul] at e
    exact absurd e.symm (Nat.ne_of_gt (fac_pos _))
  · exact h
/-- the divisions one after the other -/
theorem fac_div : ∀ (cs : List Nat) (m : Nat), cs.foldl (fun x c => x / fac c) m = m / prodF cs
  | [], m => by simp [prodF]
  | c :: cs, m => by rw [List.foldl_cons, fac_div cs, prodF_cons, Nat.div_div_eq_div_mul]
theorem mul_div (cs : List Nat) : fac cs.sum / prodF cs = mul cs := by
  rw [← mul_fac, Nat.mul_div_cancel _ (prodF_pos cs)]
/-! ### one number less -/
def less (cs : List Nat) (l : Nat) : List Nat := cs.set l (cs.getD l 0 - 1)
theorem less_len (cs : List Nat) (l : Nat) : (less cs l).length = cs.length := List.length_set ..
theorem less_zero (c : Nat) (cs : List Nat) : less (c :: cs) 0 = (c - 1) :: cs := rfl
theorem less_succ (c : Nat) (cs : List Nat) (l : Nat) : less (c :: cs) (l + 1) = c :: less cs l := rfl
theorem less_sum : ∀ (cs : List Nat) (l : Nat), 0 < cs.getD l 0 → (less cs l).sum + 1 = cs.sum
  | [], l, h => by simp at h
  | c :: cs, 0, h => by
    rw [less_zero]
    simp only [List.getD_cons_zero] at h
    simp only [List.sum_cons]
    omega
  | c :: cs, l + 1, h => by
    have := less_sum cs l (by simpa using h)
    rw [less_succ]
    simp only [List.sum_cons]
    omega
theorem less_prod : ∀ (cs : List Nat) (l : Nat), 0 < cs.getD l 0 → cs.getD l 0 * prodF (less cs l) = prodF cs
  | [], l, h => by simp at h
  | c :: cs, 0, h => by
    simp only [List.getD_cons_zero] at h ⊢
    obtain ⟨d, rfl⟩ : ∃ d, c = d + 1 := ⟨c - 1, by omega⟩
    rw [less_zero, prodF_cons, prodF_cons, Nat.add_sub_cancel, show fac (d + 1) = (d + 1) * fac d from rfl, Nat.mul_assoc]
  | c :: cs, l + 1, h => by
    have := less_prod cs l (by simpa using h)
    rw [less_succ, prodF_cons, prodF_cons, ← this, List.getD_cons_succ]
    simp only [Nat.mul_left_comm]
/-- c M(c) = n M(c less one) -/
theorem mul_less {cs : List Nat} {l : Nat} (h : 0 < cs.getD l 0) : cs.getD l 0 * mul cs = cs.sum * mul (less cs l) := by
  have h1 := mul_fac cs
  have h2 := mul_fac (less cs l)
  have h3 := less_sum cs l h
  have h4 := less_prod cs l h
  rw [← h3, show fac ((less cs l).sum + 1) = ((less cs l).sum + 1) * fac (less cs l).sum from rfl, ← h2, ← h4] at h1
  refine Nat.eq_of_mul_eq_mul_right (prodF_pos (less cs l)) ?_
  rw [← h3]
  calc cs.getD l 0 * mul cs * prodF (less cs l) = mul cs * (cs.getD l 0 * prodF (less cs l)) := by rw [Nat.mul_left_comm (mul cs), Nat.mul_assoc]
    _ = _ := h1
    _ = _ := by simp only [Nat.mul_assoc]
/-! ### sums over places -/
def sumI (f : Nat → Int) : Nat → Int
  | 0 => 0
  | n + 1 => sumI f n + f n
theorem sumI_list (f : Nat → Int) : ∀ n, ((List.range n).map f).sum = sumI f n
  | 0 => rfl
  | n + 1 => by
    rw [List.range_succ, List.map_append, List.sum_append, sumI_list f n]
    simp [sumI]
theorem sumI_congr {f g : Nat → Int} : ∀ {n}, (∀ i, i < n → f i = g i) → sumI f n = sumI g n
  | 0, _ => rfl
  | n + 1, h => by rw [sumI, sumI, sumI_congr fun i hi => h i (by omega), h n (by omega)]
theorem sumI_mul (f : Nat → Int) (x : Int) : ∀ n, x * sumI f n = sumI (fun i => x * f i) n
  | 0 => by simp [sumI]
  | n + 1 => by rw [sumI, sumI, Int.mul_add, sumI_mul f x n]
theorem sumI_add (f g : Nat → Int) : ∀ n, sumI (fun i => f i + g i) n = sumI f n + sumI g n
  | 0 => rfl
  | n + 1 => by
    rw [sumI, sumI, sumI, sumI_add f g n]
    omega
theorem sumI_front (f : Nat → Int) : ∀ n, sumI f (n + 1) = f 0 + sumI (fun i => f (i + 1)) n
  | 0 => by simp [sumI]
  | n + 1 => by
    rw [sumI, sumI_front f n, sumI]
    omega
theorem sumI_cast : ∀ cs : List Nat, sumI (fun i => (cs.getD i 0 : Int)) cs.length = (cs.sum : Int)
  | [] => rfl
  | c :: cs => by
    rw [List.length_cons, sumI_front, List.sum_cons]
    have := sumI_cast cs
    simp only [List.getD_cons_zero, List.getD_cons_succ]
    omega
/-- how many trees there are with these counts -/
def trees (cs : List Nat) : Int := sumI (fun i => (cs.getD i 0 : Int) * (1 - (i : Int))) cs.length
/-- the number of lists with one less, or nought -/
def mulL (cs : List Nat) (i : Nat) : Int := if 0 < cs.getD i 0 then (mul (less cs i) : Int) else 0
theorem mul_lessI (cs : List Nat) (i : Nat) : (cs.getD i 0 : Int) * mul cs = cs.sum * mulL cs i := by
  unfold mulL
  split
  · rename_i h
    have := mul_less h
    exact_mod_cast this
  · rename_i h
    have : cs.getD i 0 = 0 := by omega
    rw [this]
    simp
theorem weigh (cs : List Nat) (w : Nat → Int) : sumI (fun i => (cs.getD i 0 : Int) * w i) cs.length * mul cs = cs.sum * sumI (fun i => w i * mulL cs i) cs.length := by
  rw [Int.mul_comm, sumI_mul, sumI_mul]
  apply sumI_congr
  intro i _
  have := mul_lessI cs i
  calc (mul cs : Int) * ((cs.getD i 0 : Int) * w i) = w i * ((cs.getD i 0 : Int) * mul cs) := by rw [Int.mul_comm, Int.mul_comm (cs.getD i 0 : Int) (w i), Int.mul_assoc]
    _ = w i * (cs.sum * mulL cs i) := by rw [this]
    _ = _ := by simp only [Int.mul_left_comm]
/-- how many words there are -/
def hm (cs : List Nat) : Int := if trees cs < 1 then 0 else trees cs * mul cs / cs.sum
theorem hm_exact {cs : List Nat} (h : 0 < cs.sum) : trees cs * mul cs = cs.sum * sumI (fun i => (1 - (i : Int)) * mulL cs i) cs.length := weigh cs fun i => 1 - (i : Int)
theorem hm_mul {cs : List Nat} (h : 0 < cs.sum) (ht : ¬ trees cs < 1) : hm cs * cs.sum = trees cs * mul cs := by
  unfold hm
  rw [if_neg ht, hm_exact h, Int.mul_ediv_cancel_left _ (by omega), Int.mul_comm]
theorem sumI_le {f g : Nat → Int} : ∀ {n}, (∀ i, i < n → f i ≤ g i) → sumI f n ≤ sumI g n
  | 0, _ => Int.le_refl _
  | n + 1, h => by
    have h1 := sumI_le (n := n) fun i hi => h i (by omega)
    have h2 := h n (by omega)
    rw [sumI, sumI]
    omega
theorem trees_le (cs : List Nat) : trees cs ≤ cs.sum := by
  rw [← sumI_cast cs]
  refine sumI_le fun i _ => ?_
  have h : (cs.getD i 0 : Int) * (1 - (i : Int)) ≤ (cs.getD i 0 : Int) * 1 := Int.mul_le_mul_of_nonneg_left (by omega) (by omega)
  omega
/-- as numbers of the program -/
def ci (cs : List Nat) : List Int := cs.map fun c : Nat => (c : Int)
theorem ci_len (cs : List Nat) : (ci cs).length = cs.length := List.length_map ..
theorem ci_sum : ∀ cs : List Nat, (ci cs).sum = (cs.sum : Int)
  | [] => rfl
  | c :: cs => by
    have := ci_sum cs
    show (c : Int) + (ci cs).sum = ((c + cs.sum : Nat) : Int)
    omega
theorem ci_at (cs : List Nat) (i : Nat) : (ci cs).getD i 0 = ((cs.getD i 0 : Nat) : Int) := by
  unfold ci
  rw [List.getD_eq_getElem?_getD, List.getD_eq_getElem?_getD, List.getElem?_map]
  cases cs[i]? <;> rfl
theorem ci_get {cs : List Nat} {i : Nat} {n : Int} (h : (ci cs)[i]? = some n) : ∃ c : Nat, n = c ∧ cs[i]? = some c := by
  unfold ci at h
  rw [List.getElem?_map] at h
  cases e : cs[i]? with
  | none => rw [e] at h; cases h
  | some c =>
    rw [e] at h
    exact ⟨c, by simpa using h.symm, rfl⟩
theorem le_sum : ∀ {cs : List Nat} {i c : Nat}, cs[i]? = some c → c ≤ cs.sum
  | d :: cs, 0, c, h => by
    cases h
    rw [List.sum_cons]
    omega
  | d :: cs, i + 1, c, h => by
    have := le_sum (cs := cs) (i := i) (by simpa using h)
    rw [List.sum_cons]
    omega
theorem fac_small {n : Nat} (h : n ≤ 100) : fac n < 2 ^ 600 := Nat.lt_of_le_of_lt (fac_mono h) (by decide +kernel)
end Tr
/-! How often each number stands in a list. -/
namespace Tr
def mx (ws : List Nat) : Nat := ws.foldr max 0
theorem le_mx : ∀ {ws : List Nat} {w : Nat}, w ∈ ws → w ≤ mx ws
  | v :: ws, w, h => by
    show w ≤ max v (mx ws)
    rcases List.mem_cons.mp h with h | h
    · omega
    · have := le_mx h
      omega
theorem mx_mem : ∀ {ws : List Nat}, ws ≠ [] → mx ws ∈ ws
  | [v], _ => by simp [mx]
  | v :: u :: ws, _ => by
    have ih := mx_mem (ws := u :: ws) (by simp)
    show max v (mx (u :: ws)) ∈ _
    by_cases h : mx (u :: ws) ≤ v
    · rw [Nat.max_eq_left h]
      exact List.mem_cons_self ..
    · rw [Nat.max_eq_right (by omega)]
      exact List.mem_cons_of_mem _ ih
def cntOf (ws : List Nat) : List Nat := (List.range (mx ws + 1)).map fun l => ws.count l
theorem cntOf_len (ws : List Nat) : (cntOf ws).length = mx ws + 1 := by simp [cntOf]
theorem cntOf_at (ws : List Nat) (l : Nat) : (cntOf ws).getD l 0 = ws.count l := by
  unfold cntOf
  rw [List.getD_eq_getElem?_getD, List.getElem?_map]
  by_cases h : l < mx ws + 1
  · rw [List.getElem?_range h]
    rfl
  · rw [List.getElem?_eq_none (by simpa using h)]
    symm
    show ws.count l = 0
    rw [List.count_eq_zero]
    intro hm
    have := le_mx hm
    omega
theorem ci_mem {ws : List Nat} {m : Int} : m ∈ ci ws ↔ ∃ w ∈ ws, m = (w : Int) := by
  unfold ci
  rw [List.mem_map]
  constructor
  · rintro ⟨w, h, rfl⟩
    exact ⟨w, h, rfl⟩
  · rintro ⟨w, h, rfl⟩
    exact ⟨w, h, rfl⟩
theorem mx_ci {ws : List Nat} {m : Int} (h0 : 0 < ws.length) (h1 : m ∈ ci ws) (h2 : ∀ y ∈ ci ws, y ≤ m) : m = (mx ws : Int) := by
  obtain ⟨w, hw, rfl⟩ := ci_mem.mp h1
  have a := le_mx hw
  have b := h2 _ (ci_mem.mpr ⟨mx ws, mx_mem (List.ne_nil_of_length_pos h0), rfl⟩)
  omega
theorem ci_count (ws : List Nat) (l : Nat) : (ci ws).count (l : Int) = ws.count l := by
  induction ws with
  | nil => rfl
  | cons w ws ih =>
    show ((w : Int) :: ci ws).count (l : Int) = _
    rw [List.count_cons, List.count_cons, ih]
    congr 1
    by_cases h : w = l
    · subst h
      simp
    · have h2 : ¬ ((w : Int) = (l : Int)) := by omega
      simp [h, h2]
theorem mx_perm {as bs : List Nat} (h : as.Perm bs) : mx as = mx bs := by
  induction h with
  | nil => rfl
  | cons x _ ih => exact congrArg (max x) ih
  | swap x y l => show max y (max x _) = max x (max y _); omega
  | trans _ _ i1 i2 => exact i1.trans i2
theorem cntOf_perm {as bs : List Nat} (h : as.Perm bs) : cntOf as = cntOf bs := by
  unfold cntOf
  rw [mx_perm h]
  apply List.map_congr_left
  intro l _
  exact h.count_eq l
end Tr
namespace Tr
open PySem PySem.Spec PyProof.Rows L2
/-! the text of the row, by places -/
def topS (i : Nat) : Stmt := PySem.Challenge.pw_turnrow_k09_how_many_words.main.body.getD i (.Pass ⟨0, 0, 0, 0⟩)
abbrev s_factorial : Stmt := topS 1
abbrev n_factorial : List Str := ["number", "found", "factor"]
theorem sc_factorial : FnScope n_factorial ["number"] (defScope s_factorial) := ⟨rfl, rfl, rfl, by decide +kernel, rfl, by decide +kernel, by decide +kernel⟩
abbrev s_lists_with : Stmt := topS 2
abbrev n_lists_with : List Str := ["counts", "found", "count"]
theorem sc_lists_with : FnScope n_lists_with ["counts"] (defScope s_lists_with) := ⟨rfl, rfl, rfl, by decide +kernel, rfl, by decide +kernel, by decide +kernel⟩
abbrev s_trees_of : Stmt := topS 3
abbrev n_trees_of : List Str := ["counts", "place", "count"]
theorem sc_trees_of : FnScope n_trees_of ["counts"] (defScope s_trees_of) := ⟨rfl, rfl, rfl, by decide +kernel, rfl, by decide +kernel, by decide +kernel⟩
abbrev s_how_many : Stmt := topS 4
abbrev n_how_many : List Str := ["counts", "many"]
theorem sc_how_many : FnScope n_how_many ["counts"] (defScope s_how_many) := ⟨rfl, rfl, rfl, by decide +kernel, rfl, by decide +kernel, by decide +kernel⟩
abbrev s_law_cell_at : Stmt := topS 6
abbrev n_law_cell_at : List Str := ["script", "k"]
theorem sc_law_cell_at : FnScope n_law_cell_at ["script", "k"] (defScope s_law_cell_at) := ⟨rfl, rfl, rfl, by decide +kernel, rfl, by decide +kernel, by decide +kernel⟩
abbrev s_law_whole : Stmt := topS 7
abbrev n_law_whole : List Str := ["found"]
theorem sc_law_whole : FnScope n_law_whole ["found"] (defScope s_law_whole) := ⟨rfl, rfl, rfl, by decide +kernel, rfl, by decide +kernel, by decide +kernel⟩
abbrev s_law_counts : Stmt := topS 8
abbrev n_law_counts : List Str := ["word", "found", "number"]
theorem sc_law_counts : FnScope n_law_counts ["word"] (defScope s_law_counts) := ⟨rfl, rfl, rfl, by decide +kernel, rfl, by decide +kernel, by decide +kernel⟩
abbrev s_law_multiples : Stmt := topS 9
abbrev n_law_multiples : List Str := ["counts", "found", "nodes", "count", "k"]
theorem sc_law_multiples : FnScope n_law_multiples ["counts"] (defScope s_law_multiples) := ⟨rfl, rfl, rfl, by decide +kernel, rfl, by decide +kernel, by decide +kernel⟩
abbrev s_law : Stmt := topS 10
abbrev n_law : List Str := ["script", "counts", "handed", "found", "many", "k", "place", "count"]
theorem sc_law : FnScope n_law ["script"] (defScope s_law) := ⟨rfl, rfl, rfl, by decide +kernel, rfl, by decide +kernel, by decide +kernel⟩
structure Txt (K : PySem.W.Frag) (mg : Str → Option Value) : Prop where
  f_factorial : Txt1 K mg "factorial" s_factorial ["number"]
  f_lists_with : Txt1 K mg "lists_with" s_lists_with ["counts"]
  f_trees_of : Txt1 K mg "trees_of" s_trees_of ["counts"]
  f_how_many : Txt1 K mg "how_many" s_how_many ["counts"]
  f_law_cell_at : Txt1 K mg "_law_cell_at" s_law_cell_at ["script", "k"]
  f_law_whole : Txt1 K mg "_law_whole" s_law_whole ["found"]
  f_law_counts : Txt1 K mg "_law_counts" s_law_counts ["word"]
  f_law_multiples : Txt1 K mg "_law_multiples" s_law_multiples ["counts"]
  f_law : Txt1 K mg "law" s_law ["script"]
  m_bool : mg "bool" = none
  m_enumerate : mg "enumerate" = none
  m_int : mg "int" = none
  m_isinstance : mg "isinstance" = none
  m_len : mg "len" = none
  m_list : mg "list" = none
  m_max : mg "max" = none
  m_range : mg "range" = none
  m_sum : mg "sum" = none
end Tr
local macro_rules | `(tactic| walk_at "sq") => `(tactic| first
  | assumption
  | (refine Tr.Led.sq (H0 := ?hH) (l := ?hl) ?L 0 ?h; (case L => assumption); (case h => rfl))
  | (refine Tr.Led.sq (H0 := ?hH) (l := ?hl) ?L 1 ?h; (case L => assumption); (case h => rfl))
  | (refine Tr.Led.sq (H0 := ?hH) (l := ?hl) ?L 2 ?h; (case L => assumption); (case h => rfl))
  | (refine Tr.Led.sq (H0 := ?hH) (l := ?hl) ?L 3 ?h; (case L => assumption); (case h => rfl))
  | (refine Tr.Led.sq (H0 := ?hH) (l := ?hl) ?L 4 ?h; (case L => assumption); (case h => rfl))
  | (refine Tr.Led.sq (H0 := ?hH) (l := ?hl) ?L 5 ?h; (case L => assumption); (case h => rfl))
  | (refine Tr.Led.sq (H0 := ?hH) (l := ?hl) ?L 6 ?h; (case L => assumption); (case h => rfl))
  | (refine Tr.Led.sq (H0 := ?hH) (l := ?hl) ?L 7 ?h; (case L => assumption); (case h => rfl))
  | (refine Tr.Led.seq (H0 := ?hH) (l := ?hl) ?L ?h; (case L => assumption); (case h => assumption)))
local macro_rules | `(tactic| walk_at "s1") => `(tactic| first
  | with_reducible refine Tr.rd_seq ?_
  | with_reducible refine Tr.rd_asg ?_
  | with_reducible refine Tr.rd_name ?_
  | with_reducible refine Tr.rd_c ?_
  | ((with_reducible refine Tr.rd_var (v := ?hvv) ?hvr ?_); (case hvr => exact rfl))
  | with_reducible refine Tr.rd_op ?_
  | with_reducible refine Tr.rd_cons ?_
  | with_reducible refine Tr.rd_nil ?_
  | with_reducible refine Tr.rd_addI ?_
  | with_reducible refine Tr.rd_sub ?_
  | with_reducible refine Tr.rd_neg ?_
  | with_reducible refine Tr.rd_drop ?_
  | with_reducible refine Tr.rd_ret ?_
  | with_reducible refine Tr.rd_ifS ?_
  | with_reducible refine Tr.rd_test ?_
  | with_reducible refine Tr.rd_testB ?_
  | with_reducible refine Tr.rd_isB ?_
  | with_reducible refine Tr.rd_isI ?_
  | with_reducible refine Tr.rd_and ?_
  | with_reducible refine Tr.rd_or ?_
  | with_reducible refine Tr.rd_not ?_
  | with_reducible refine Tr.rd_andV ?_
  | with_reducible refine Tr.rd_orV ?_
  | with_reducible refine Tr.rd_notV ?_
  | with_reducible refine Tr.rd_un ?_
  | with_reducible refine Tr.rd_call ?_
  | with_reducible refine Tr.rd_callG ?_
  | with_reducible refine Tr.rd_CB ?_
  | with_reducible refine Tr.rd_BM ?_
  | with_reducible refine Tr.rd_BM0 ?_
  | ((with_reducible refine Tr.rd_ty (xs := ?hxs) ?hsq ?_); (case hsq => walk_at "sq"))
  | with_reducible refine Tr.rd_sl ?_
  | with_reducible refine Tr.rd_noP ?_
  | with_reducible refine Tr.rd_part ?_
  | with_reducible refine Tr.rd_lst ?_
  | with_reducible refine Tr.rd_tup ?_
  | with_reducible refine Tr.rd_lt ?_
  | with_reducible refine Tr.rd_le ?_
  | with_reducible refine Tr.rd_gt ?_
  | with_reducible refine Tr.rd_ge ?_
  | with_reducible refine Tr.rd_eqI ?_
  | with_reducible refine Tr.rd_neI ?_
  | with_reducible refine Tr.rd_eqS ?_
  | with_reducible refine Tr.rd_neS ?_
  | with_reducible refine Tr.rd_eqB ?_
  | with_reducible refine Tr.rd_neB ?_
  | with_reducible refine Tr.rd_isN ?_
  | with_reducible refine Tr.rd_rz ?_
  | with_reducible refine Tr.rd_retN ?_
  | with_reducible refine Tr.rd_next ?_
  | with_reducible refine Tr.rd_brk ?_
  | with_reducible refine Tr.rd_yes ?_
  | with_reducible refine L2.iteT ?_
  | with_reducible refine L2.iteF ?_
  | with_reducible refine Tr.iteNT ?_
  | with_reducible refine Tr.iteNF ?_
  | with_reducible refine Tr.rd_for ?_
  | with_reducible refine Tr.rd_lc ?_
  | with_reducible refine Tr.rd_iList ?_
  | with_reducible refine Tr.rd_iTup ?_
  | with_reducible refine Tr.rd_iStr ?_
  | with_reducible refine Tr.rd_iRng1 ?_
  | with_reducible refine Tr.rd_iRng2 ?_
  | with_reducible refine Tr.rd_iRng3 ?_
  | with_reducible refine Tr.rd_iRev ?_
  | with_reducible refine Tr.rd_itS ?_
  | ((with_reducible refine Tr.rd_itL (xs := ?hxs) ?hsq ?_); (case hsq => walk_at "sq"))
  | ((with_reducible refine Tr.rd_itV (xs := ?hxs) ?hsq ?_); (case hsq => walk_at "sq"))
  | ((with_reducible refine Tr.rd_mod ?hlt ?_); (case hlt => first | omega | assumption))
  | ((with_reducible refine Tr.rd_divK ?hlt ?hl2 ?_); (case hlt => first | omega | assumption); (case hl2 => first | omega | assumption))
  | ((with_reducible refine Tr.rd_lenL (xs := ?hxs) ?hsq ?_); (case hsq => walk_at "sq"))
  | with_reducible refine Tr.rd_intB ?_
  | with_reducible refine Tr.rd_revL ?_
  | with_reducible refine Tr.rd_listRev ?_
  | with_reducible refine Tr.rd_gSub ?_
  | with_reducible refine Tr.rd_iEnum ?_
  | with_reducible refine Tr.rd_gMax2 ?_
  | with_reducible refine Tr.rd_gMin2 ?_)
local macro_rules | `(tactic| walk_at "s") => `(tactic| (repeat walk_at "s1"))
namespace Tr
open PySem PySem.Spec PyProof.Rows L2
def sp_trees_of (K : PySem.W.Frag) : Sp := fun vs H Q _ => ∃ (a : Addr) (cs : List Nat), vs = [.ref a] ∧ SqL K H a ((ci cs).map V.int) ∧ cs.length ≤ 1000 ∧ newV H Q (.int (trees cs))
theorem ok_trees_of {P : Program} {w : World} {K : PySem.W.Frag} {mg : Str → Option Value} {base : Heap} (T : Txt K mg) : Fn P w K mg base (L2.CX P w) 1 "trees_of" ["counts"] (sp_trees_of K) := by
  refine fnOf1 T.f_trees_of sc_trees_of (fun vs H Q E h => ?_) (fun f cdv A outer s H vs Q E hr h => ⟨_, (pss_one (ps_ret (pe_callB (kSum K rfl) (by rfl) T.m_sum (by decide +kernel) (pa_cons (pe_lc (own := [("place", 1), ("count", 2)]) (g := gTup K 2 (gCons (gName 1) (gCons (gName 2) gNil))) rfl sc_trees_of.nd (pi_enum rfl T.m_enumerate (pa_cons (pv 0) pa_nil)) (blkOk_by (N := n_trees_of) (sc := defScope s_trees_of) (by decide +kernel)) (fun _ _ _ _ _ => pg_tup rfl (pgs_cons (pg_name (i := 1) sc_trees_of.nd rfl (Or.inl rfl)) (pgs_cons (pg_name (i := 2) sc_trees_of.nd rfl (Or.inl rfl)) pgs_nil))) (fun _ _ _ _ _ => pts_nil) (fun _ _ _ _ _ => (pe_op op_gMul (pv 2) (pe_op op_gSub pe_int (pv 1))))) pa_nil)))), ?_⟩)
  · obtain ⟨a, cs, rfl, _⟩ := h
    rfl
  obtain ⟨a, cs, rfl, hS, hl, hq⟩ := h
  try dsimp only [L2.cxOf]
  walk_at "s"
  refine rd_itE hS ?_
  refine lc_enum (ns := ci cs) (fun j n => .int (n * (1 - (j : Nat)))) (Led.start H) (fun H1 t1 s1 _ _ => s1.seq hS) ?_ ?_
  · intro i n D T H1 hi L t
    have hlt := (List.getElem?_eq_some_iff.mp hi).1
    rw [ci_len] at hlt
    walk_at "s"
    refine rd_gTwo L 0 rfl ⟨rfl, ?_⟩
    walk_at "s"
    refine rd_mulR (by omega) (by omega) ?_
    refine rd_mapEnd [_] L t (by omega) ?_
    unfold enumF
    rw [List.getD_eq_getElem?_getD, hi]
    rfl
  · intro D H1 L t
    walk_at "s"
    have e : (List.range (ci cs).length).map (enumF (ci cs) fun j n => .int (n * (1 - (j : Nat)))) = ((List.range cs.length).map fun i => (cs.getD i 0 : Int) * (1 - (i : Int))).map V.int := by
      rw [ci_len, List.map_map]
      apply List.map_congr_left
      intro i _
      unfold enumF
      rw [ci_at]
      rfl
    rw [e] at L
    refine rd_sum (L.sq 0) ?_
    rw [sumI_list]
    exact hq _ L.none
end Tr
namespace Tr
open PySem PySem.Spec PyProof.Rows L2
def sp_factorial (_ : PySem.W.Frag) : Sp := fun vs H Q _ => ∃ n : Nat, vs = [.int n] ∧ n ≤ 100 ∧ Q (.int (fac n : Nat)) H
theorem ok_factorial {P : Program} {w : World} {K : PySem.W.Frag} {mg : Str → Option Value} {base : Heap} (T : Txt K mg) : Fn P w K mg base (L2.CX P w) 1 "factorial" ["number"] (sp_factorial K) := by
  refine fnOf1 T.f_factorial sc_factorial (fun vs H Q E h => ?_) (fun f cdv A outer s H vs Q E hr h => ⟨_, (pss_cons (ps_set (i := 1) sc_factorial.nd rfl (Or.inl rfl) pe_int)
      (pss_cons (ps_for (passes_of rfl) rfl (pi_range2 rfl T.m_range (pa_cons pe_int (pa_cons (pe_op op_gAdd (pv 0) pe_int) pa_nil))) (pg_name (i := 2) sc_factorial.nd rfl (Or.inl rfl)) (pss_one (ps_set (i := 1) sc_factorial.nd rfl (Or.inl rfl) (pe_op op_gMul (pv 1) (pv 2)))))
      (pss_one (ps_ret (pv 1))))), ?_⟩)
  · obtain ⟨n, rfl, _⟩ := h
    rfl
  obtain ⟨n, rfl, hn, hq⟩ := h
  try dsimp only [L2.cxOf]
  walk_at "s"
  refine rd_itR2 (n - 1) (by omega) (by omega) ?_
  refine lp_rng (fun i σ H' => ∃ y, σ = [some (.int n), some (.int (fac (i + 1) : Nat)), y] ∧ H' = H) ⟨none, rfl, rfl⟩ ?_ ?_
  · rintro i σ H' hi ⟨y, rfl, rfl⟩
    walk_at "s"
    refine rd_mulR (by omega) (by omega) ?_
    refine ⟨some (.int (2 + (i : Nat))), ?_, rfl⟩
    have e : ((fac (i + 1) : Nat) : Int) * (2 + (i : Nat)) = ((fac (i + 1 + 1) : Nat) : Int) := by
      rw [show fac (i + 1 + 1) = (i + 1 + 1) * fac (i + 1) from rfl, Int.natCast_mul, Int.mul_comm]
      congr 1
      omega
    rw [e]
    rfl
  · rintro σ H' ⟨y, rfl, rfl⟩
    walk_at "s"
    have e : fac (n - 1 + 1) = fac n := by
      cases n with
      | zero => rfl
      | succ m => rfl
    rw [e]
    exact hq
end Tr
namespace Tr
open PySem PySem.Spec PyProof.Rows L2
def sp_lists_with (K : PySem.W.Frag) : Sp := fun vs H Q _ => ∃ (a : Addr) (cs : List Nat), vs = [.ref a] ∧ SqL K H a ((ci cs).map V.int) ∧ cs.sum ≤ 100 ∧ Q (.int (mul cs : Nat)) H
theorem ok_lists_with {P : Program} {w : World} {K : PySem.W.Frag} {mg : Str → Option Value} {base : Heap} (T : Txt K mg) : Fn P w K mg base (L2.CX P w) 2 "lists_with" ["counts"] (sp_lists_with K) := by
  refine fnOf1 T.f_lists_with sc_lists_with (fun vs H Q E h => ?_) (fun f cdv A outer s H vs Q E hr h => ⟨_, (pss_cons (ps_set (i := 1) sc_lists_with.nd rfl (Or.inl rfl) (pe_callF (ok_factorial T) (hr.mono (by decide)) rfl passL (pa_cons (pe_callB (kSum K rfl) (by rfl) T.m_sum (by decide +kernel) (pa_cons (pv 0) pa_nil)) pa_nil)))
      (pss_cons (ps_for (passes_of rfl) rfl (kiList K (pv 0)) (pg_name (i := 2) sc_lists_with.nd rfl (Or.inl rfl)) (pss_one (ps_set (i := 1) sc_lists_with.nd rfl (Or.inl rfl) (pe_op op_gDiv (pv 1) (pe_callF (ok_factorial T) (hr.mono (by decide)) rfl passL (pa_cons (pv 2) pa_nil))))))
      (pss_one (ps_ret (pv 1))))), ?_⟩)
  · obtain ⟨a, cs, rfl, _⟩ := h
    rfl
  obtain ⟨a, cs, rfl, hS, hs, hq⟩ := h
  try dsimp only [L2.cxOf]
  walk_at "s"
  refine rd_sum hS ?_
  rw [ci_sum]
  walk_at "s"
  refine ⟨cs.sum, rfl, hs, ?_⟩
  walk_at "s"
  refine lp_ints (ns := ci cs) (fun i σ H' => ∃ y, σ = [some (.ref a), some (.int ((cs.take i).foldl (fun x c => x / fac c) (fac cs.sum) : Nat)), y] ∧ H' = H) ⟨none, rfl, rfl⟩ (fun i σ H' _ ⟨_, _, e⟩ => e ▸ hS) ?_ ?_
  · rintro i n σ H' hi ⟨y, rfl, rfl⟩
    obtain ⟨c, rfl, hc⟩ := ci_get hi
    have hcs := le_sum hc
    walk_at "s"
    refine ⟨c, rfl, by omega, ?_⟩
    have hf := fac_pos c
    refine rd_div (wide_div (b := 600) (by omega) (by rw [Int.natAbs_natCast]; exact fac_small (by omega)) (by decide) (by decide)) ?_
    refine ⟨some (.int c), ?_, rfl⟩
    rw [← Int.natCast_ediv, List.take_add_one, hc, List.foldl_append]
    rfl
  · rintro σ H' ⟨y, rfl, rfl⟩
    rw [ci_len, List.take_length, fac_div, mul_div]
    walk_at "s"
    exact hq
end Tr
namespace Tr
open PySem PySem.Spec PyProof.Rows L2
def sp_how_many (K : PySem.W.Frag) : Sp := fun vs H Q _ => ∃ (a : Addr) (cs : List Nat), vs = [.ref a] ∧ SqL K H a ((ci cs).map V.int) ∧ cs.length ≤ 1000 ∧ cs.sum ≤ 100 ∧ newV H Q (.int (hm cs))
theorem ok_how_many {P : Program} {w : World} {K : PySem.W.Frag} {mg : Str → Option Value} {base : Heap} (T : Txt K mg) : Fn P w K mg base (L2.CX P w) 3 "how_many" ["counts"] (sp_how_many K) := by
  refine fnOf1 T.f_how_many sc_how_many (fun vs H Q E h => ?_) (fun f cdv A outer s H vs Q E hr h => ⟨_, (pss_cons (ps_set (i := 1) sc_how_many.nd rfl (Or.inl rfl) (pe_callF (ok_trees_of T) (hr.mono (by decide)) rfl passL (pa_cons (pv 0) pa_nil)))
      (pss_cons (ps_if (pt_cmpR op_gLt (pv 1) pe_int (nomark _)) (pss_one (ps_ret pe_int)) pss_nil)
      (pss_one (ps_ret (pe_op op_gDiv (pe_op op_gMul (pv 1) (pe_callF (ok_lists_with T) (hr.mono (by decide)) rfl passL (pa_cons (pv 0) pa_nil))) (pe_callB (kSum K rfl) (by rfl) T.m_sum (by decide +kernel) (pa_cons (pv 0) pa_nil))))))), ?_⟩)
  · obtain ⟨a, cs, rfl, _⟩ := h
    rfl
  obtain ⟨a, cs, rfl, hS, hl, hs, hq⟩ := h
  try dsimp only [L2.cxOf]
  walk_at "s"
  refine ⟨a, cs, rfl, hS, hl, fun H1 L1 => ?_⟩
  have ht := trees_le cs
  walk_at "s"
  refine ited (fun c => ?_) (fun c => ?_)
  · walk_at "s"
    unfold hm at hq
    rw [if_pos c] at hq
    exact hq _ L1
  · walk_at "s"
    refine ⟨a, cs, rfl, L1.seq hS, hs, ?_⟩
    refine rd_mulL (by omega) (by omega) ?_
    walk_at "s"
    refine rd_sum (L1.seq hS) ?_
    rw [ci_sum]
    refine rd_divK (by omega) (by omega) ?_
    walk_at "s"
    unfold hm at hq
    rw [if_neg c] at hq
    exact hq _ L1
end Tr
namespace Tr
open PySem PySem.Spec PyProof.Rows L2
def sp_law_cell_at (K : PySem.W.Frag) : Sp := fun vs H Q _ => ∃ a ns, ∃ k : Nat, vs = [.ref a, .int k] ∧ SqL K H a (ns.map V.int) ∧ Q (.int (cell ns k)) H
theorem cell_in {ns : List Int} {k : Nat} (h : k < ns.length) : (ns.map V.int)[k]? = some (.int (cell ns k)) := by
  unfold cell
  rw [List.getElem?_map, List.getD_eq_getElem?_getD, List.getElem?_eq_getElem h]
  rfl
theorem cell_out {ns : List Int} {k : Nat} (h : ns.length ≤ k) : cell ns k = 0 := by
  unfold cell
  rw [List.getD_eq_getElem?_getD, List.getElem?_eq_none h]
  rfl
theorem ok_law_cell_at {P : Program} {w : World} {K : PySem.W.Frag} {mg : Str → Option Value} {base : Heap} (T : Txt K mg) : Fn P w K mg base (L2.CX P w) 1 "_law_cell_at" ["script", "k"] (sp_law_cell_at K) := by
  refine fnOf1 T.f_law_cell_at sc_law_cell_at (fun vs H Q E h => ?_) (fun f cdv A outer s H vs Q E hr h => ⟨_, (pss_cons (ps_if (pt_cmpR op_gLt (pv 1) (pe_callB (kLen K) (by rfl) T.m_len (by decide +kernel) (pa_cons (pv 0) pa_nil)) (nomark _)) (pss_one (ps_ret (pe_ix (kIx K) (pv 0) (pv 1) (fun _ _ => rfl)))) pss_nil)
      (pss_one (ps_ret pe_int))), ?_⟩)
  · obtain ⟨a, ns, k, rfl, _⟩ := h
    rfl
  obtain ⟨a, ns, k, rfl, hS, hq⟩ := h
  try dsimp only [L2.cxOf]
  walk_at "s"
  rw [List.length_map]
  refine ited (fun c => ?_) (fun c => ?_)
  · walk_at "s"
    exact rd_ixL hS (atI_nat (cell_in (by omega))) hq
  · walk_at "s"
    rw [cell_out (by omega)] at hq
    exact hq
end Tr
namespace Tr
open PySem PySem.Spec PyProof.Rows L2
def sp_law_whole (K : PySem.W.Frag) : Sp := fun vs H Q _ => ∃ n : Int, vs = [.int n] ∧ Q (.bl true) H
theorem ok_law_whole {P : Program} {w : World} {K : PySem.W.Frag} {mg : Str → Option Value} {base : Heap} (T : Txt K mg) : Fn P w K mg base (L2.CX P w) 1 "_law_whole" ["found"] (sp_law_whole K) := by
  refine fnOf1 T.f_law_whole sc_law_whole (fun vs H Q E h => ?_) (fun f cdv A outer s H vs Q E hr h => ⟨_, (pss_one (ps_ret (pe_and (pe_callB (kIsi K) (by rfl) T.m_isinstance (by decide +kernel) (pa_cons (pv 0) (pa_cons (pe_bltn (v := .ty "int") rfl T.m_int (by decide +kernel) rfl) pa_nil))) (pe_one (pe_not (pe_callB (kIsi K) (by rfl) T.m_isinstance (by decide +kernel) (pa_cons (pv 0) (pa_cons (pe_bltn (v := .ty "bool") rfl T.m_bool (by decide +kernel) rfl) pa_nil)))))))), ?_⟩)
  · obtain ⟨n, rfl, _⟩ := h
    rfl
  obtain ⟨n, rfl, hq⟩ := h
  try dsimp only [L2.cxOf]
  walk_at "s"
  refine rd_isi (t := .type "int") (b := true) (.base (.int n)) (kit_ty (by decide +kernel)) ?_
  walk_at "s"
  refine rd_isi (t := .type "int") (b := false) (.base (.int n)) (kit_ty (by decide +kernel)) ?_
  walk_at "s"
  exact hq
end Tr
namespace Tr
open PySem PySem.Spec PyProof.Rows L2
def sp_law_multiples (K : PySem.W.Frag) : Sp := fun vs H Q _ => ∃ (a : Addr) (cs : List Nat), vs = [.ref a] ∧ SqL K H a ((ci cs).map V.int) ∧ cs.sum ≤ 100 ∧ Q (.int (mul cs : Nat)) H
/-- the number of lists with these counts and k more of another number -/
def mulK (cs : List Nat) (k : Nat) : Nat := mul (k :: cs)
theorem mulK_fac (cs : List Nat) (k : Nat) : mulK cs k * (fac k * prodF cs) = fac (k + cs.sum) := by
  have := mul_fac (k :: cs)
  rwa [prodF_cons, List.sum_cons] at this
theorem mulK_step (cs : List Nat) (k : Nat) : mulK cs k * (k + cs.sum + 1) / (k + 1) = mulK cs (k + 1) := by
  have h1 := mulK_fac cs k
  have h2 := mulK_fac cs (k + 1)
  have e : mulK cs k * (k + cs.sum + 1) = mulK cs (k + 1) * (k + 1) := by
    refine Nat.eq_of_mul_eq_mul_right (Nat.mul_pos (fac_pos k) (prodF_pos cs)) ?_
    have e1 : k + 1 + cs.sum = (k + cs.sum) + 1 := by omega
    rw [e1, show fac (k + cs.sum + 1) = (k + cs.sum + 1) * fac (k + cs.sum) from rfl, ← h1, show fac (k + 1) = (k + 1) * fac k from rfl] at h2
    calc mulK cs k * (k + cs.sum + 1) * (fac k * prodF cs) = (k + cs.sum + 1) * (mulK cs k * (fac k * prodF cs)) := by rw [Nat.mul_comm (mulK cs k), Nat.mul_assoc]
      _ = mulK cs (k + 1) * ((k + 1) * fac k * prodF cs) := h2.symm
      _ = _ := by simp only [Nat.mul_assoc]
  rw [e, Nat.mul_div_cancel _ (Nat.succ_pos k)]
theorem mulK_zero (cs : List Nat) : mulK cs 0 = mul cs := by simp [mulK, mul, net]
theorem prodF_rev (cs : List Nat) : prodF cs.reverse = prodF cs := by
  induction cs with
  | nil => rfl
  | cons c cs ih =>
    rw [List.reverse_cons, prodF_append, ih, prodF_cons, prodF_cons, Nat.mul_comm]
    simp [prodF]
theorem mul_rev (cs : List Nat) : mul cs.reverse = mul cs := by
  have h1 := mul_fac cs.reverse
  have h2 := mul_fac cs
  rw [prodF_rev, List.sum_reverse, ← h2] at h1
  exact Nat.eq_of_mul_eq_mul_right (prodF_pos cs) h1
theorem ok_law_multiples {P : Program} {w : World} {K : PySem.W.Frag} {mg : Str → Option Value} {base : Heap} (T : Txt K mg) : Fn P w K mg base (L2.CX P w) 1 "_law_multiples" ["counts"] (sp_law_multiples K) := by
  refine fnOf1 T.f_law_multiples sc_law_multiples (fun vs H Q E h => ?_) (fun f cdv A outer s H vs Q E hr h => ⟨_, (pss_cons (ps_set (i := 1) sc_law_multiples.nd rfl (Or.inl rfl) pe_int)
      (pss_cons (ps_set (i := 2) sc_law_multiples.nd rfl (Or.inl rfl) pe_int)
      (pss_cons (ps_for (passes_of rfl) rfl (kiList K (pv 0)) (pg_name (i := 3) sc_law_multiples.nd rfl (Or.inl rfl)) (pss_one (ps_for (passes_of rfl) rfl (pi_range2 rfl T.m_range (pa_cons pe_int (pa_cons (pe_op op_gAdd (pv 3) pe_int) pa_nil))) (pg_name (i := 4) sc_law_multiples.nd rfl (Or.inl rfl)) (pss_cons (ps_set (i := 2) sc_law_multiples.nd rfl (Or.inl rfl) (pe_op op_gAdd (pv 2) pe_int))
      (pss_one (ps_set (i := 1) sc_law_multiples.nd rfl (Or.inl rfl) (pe_op op_gDiv (pe_op op_gMul (pv 1) (pv 2)) (pv 4))))))))
      (pss_one (ps_ret (pv 1)))))), ?_⟩)
  · obtain ⟨a, cs, rfl, _⟩ := h
    rfl
  obtain ⟨a, cs, rfl, hS, hs, hq⟩ := h
  try dsimp only [L2.cxOf]
  walk_at "s"
  refine lp_ints (ns := ci cs) (fun i σ H' => ∃ y z, σ = [some (.ref a), some (.int (mul (cs.take i).reverse : Nat)), some (.int ((cs.take i).reverse.sum : Nat)), y, z] ∧ H' = H) ⟨none, none, rfl, rfl⟩ (fun i σ H' _ ⟨_, _, _, e⟩ => e ▸ hS) ?_ ?_
  · rintro i n σ H' hi ⟨y, z, rfl, rfl⟩
    obtain ⟨c, rfl, hc⟩ := ci_get hi
    have hcs := le_sum hc
    have ht : (cs.take (i + 1)).reverse = c :: (cs.take i).reverse := by rw [List.take_add_one, hc, Option.toList_some, List.reverse_append]; rfl
    have hsum : c + (cs.take i).reverse.sum ≤ 100 := by
      have : (cs.take (i + 1)).reverse.sum ≤ cs.sum := by
        rw [List.sum_reverse]
        have := congrArg List.sum (List.take_append_drop (i + 1) cs)
        rw [List.sum_append] at this
        omega
      rw [ht, List.sum_cons] at this
      omega
    rw [ht]
    generalize (cs.take i).reverse = ds at hsum ⊢
    walk_at "s"
    refine rd_itR2 c (by omega) (by omega) ?_
    refine lp_rng (fun k σ H'' => ∃ z, σ = [some (.ref a), some (.int (mulK ds k : Nat)), some (.int ((k + ds.sum : Nat) : Int)), some (.int c), z] ∧ H'' = H') ⟨z, by rw [mulK_zero, Nat.zero_add]; rfl, rfl⟩ ?_ ?_
    · rintro k σ H'' hk ⟨z, rfl, rfl⟩
      walk_at "s"
      refine rd_mulR (by omega) (by omega) ?_
      walk_at "s"
      refine ⟨some (.int (1 + (k : Nat))), ?_, rfl⟩
      have e1 : ((k + ds.sum : Nat) : Int) + 1 = ((k + 1 + ds.sum : Nat) : Int) := by omega
      have e2 : ((mulK ds k : Nat) : Int) * (((k + ds.sum : Nat) : Int) + 1) / (1 + (k : Nat)) = ((mulK ds (k + 1) : Nat) : Int) := by
        rw [← mulK_step]
        have e3 : (1 + (k : Nat) : Int) = ((k + 1 : Nat) : Int) := by omega
        have e4 : ((k + ds.sum : Nat) : Int) + 1 = ((k + ds.sum + 1 : Nat) : Int) := by omega
        rw [e3, e4, ← Int.natCast_mul, ← Int.natCast_ediv]
      rw [e2, e1]
      rfl
    · rintro σ H'' ⟨z, rfl, rfl⟩
      refine ⟨some (.int c), z, ?_, rfl⟩
      rw [List.sum_cons]
      rfl
  · rintro σ H' ⟨y, z, rfl, rfl⟩
    rw [ci_len, List.take_length, mul_rev]
    walk_at "s"
    exact hq
end Tr
namespace Tr
open PySem PySem.Spec PyProof.Rows L2
def sp_law (K : PySem.W.Frag) : Sp := fun vs H Q _ => ∃ (a : Addr) (ns : List Int), vs = [.ref a] ∧ SqL K H a (ns.map V.int) ∧ ns.length ≤ 63 ∧ ∀ H', Q (.bl true) H'
/-- a list of ints, none below nought -/
theorem ci_of {ns : List Int} (h : ∀ n ∈ ns, 0 ≤ n) : ns = ci (ns.map Int.toNat) := by
  unfold ci
  rw [List.map_map]
  induction ns with
  | nil => rfl
  | cons n ns ih =>
    have h0 := h n (List.mem_cons_self ..)
    rw [List.map_cons, ← ih fun m hm => h m (List.mem_cons_of_mem _ hm)]
    congr 1
    show n = ((n.toNat : Nat) : Int)
    omega
theorem ci_set (cs : List Nat) (i c : Nat) : (ci (cs.set i c)).map V.int = ((ci cs).map V.int).set i (.int c) := by
  unfold ci
  rw [List.map_set, List.map_set]
theorem trees_sum {K : PySem.W.Frag} (cs : List Nat) : (List.range (ci cs).length).map (enumF (ci cs) fun j n => V.int (n * (1 - (j : Nat)))) = ((List.range cs.length).map fun i => (cs.getD i 0 : Int) * (1 - (i : Int))).map V.int := by
  rw [ci_len, List.map_map]
  apply List.map_congr_left
  intro i _
  unfold enumF
  rw [ci_at]
  rfl
theorem ok_law {P : Program} {w : World} {K : PySem.W.Frag} {mg : Str → Option Value} {base : Heap} (T : Txt K mg) : Fn P w K mg base (L2.CX P w) 4 "law" ["script"] (sp_law K) := by
  refine fnOf1 T.f_law sc_law (fun vs H Q E h => ?_) (fun f cdv A outer s H vs Q E hr h => ⟨_, (pss_cons (ps_setLc (i := 1) (own := [("k", 5)]) (g := gName 5) rfl sc_law.nd rfl rfl (sw_true rfl rfl rfl (by decide +kernel)) (pi_range1 rfl T.m_range (pa_cons (pe_op op_gAdd pe_int (pe_op op_gMod (pe_callF (ok_law_cell_at T) (hr.mono (by decide)) rfl passL (pa_cons (pv 0) (pa_cons pe_int pa_nil))) pe_int)) pa_nil)) (blkOk_by (N := n_law) (sc := defScope s_law) (by decide +kernel)) (fun _ _ _ _ _ => pg_name (i := 5) sc_law.nd rfl (Or.inl rfl)) (fun _ _ _ _ _ => pts_nil) (fun _ _ _ _ _ => (pe_op op_gMod (pe_callF (ok_law_cell_at T) (hr.mono (by decide)) rfl passL (pa_cons (pv 0) (pa_cons (pe_op op_gAdd pe_int (pv 5)) pa_nil))) pe_int)))
      (pss_cons (ps_if (pt_cmpR (kEq K hr.units) (pe_op op_gMod (pe_callF (ok_law_cell_at T) (hr.mono (by decide)) rfl passL (pa_cons (pv 0) (pa_cons pe_int pa_nil))) pe_int) pe_int (nomark _)) (pss_cons (ps_asg (pe_op op_gAdd (pe_op op_gAdd pe_int (pe_callB (kSum K rfl) (by rfl) T.m_sum (by decide +kernel) (pa_cons (pe_lc (own := [("place", 6), ("count", 7)]) (g := gTup K 2 (gCons (gName 6) (gCons (gName 7) gNil))) rfl sc_law.nd (pi_enum rfl T.m_enumerate (pa_cons (pv 1) pa_nil)) (blkOk_by (N := n_law) (sc := defScope s_law) (by decide +kernel)) (fun _ _ _ _ _ => pg_tup rfl (pgs_cons (pg_name (i := 6) sc_law.nd rfl (Or.inl rfl)) (pgs_cons (pg_name (i := 7) sc_law.nd rfl (Or.inl rfl)) pgs_nil))) (fun _ _ _ _ _ => pts_nil) (fun _ _ _ _ _ => (pe_op op_gMul (pv 7) (pe_op op_gSub (pv 6) pe_int)))) pa_nil))) (pe_ix (kIx K) (pv 1) pe_int (fun _ _ => rfl))) (pg_sub (pv 1) pe_int set_list))
      (pss_one (ps_asg (pe_op op_gAdd (pe_callB (kMax K rfl) (by rfl) T.m_max (by decide +kernel) (pa_cons pe_int (pa_cons (pe_ix (kIx K) (pv 1) pe_int (fun _ _ => rfl)) pa_nil))) (pe_op op_gMod (pe_op op_gDiv (pe_callF (ok_law_cell_at T) (hr.mono (by decide)) rfl passL (pa_cons (pv 0) (pa_cons pe_int pa_nil))) pe_int) pe_int)) (pg_sub (pv 1) pe_int set_list)))) pss_nil)
      (pss_cons (ps_if (pt_cmpR (kEq K hr.units) (pe_op op_gMod (pe_op op_gDiv (pe_callF (ok_law_cell_at T) (hr.mono (by decide)) rfl passL (pa_cons (pv 0) (pa_cons pe_int pa_nil))) pe_int) pe_int) pe_int (nomark _)) (pss_one (ps_asg (pe_op op_gMod (pe_op op_gDiv (pe_callF (ok_law_cell_at T) (hr.mono (by decide)) rfl passL (pa_cons (pv 0) (pa_cons pe_int pa_nil))) pe_int) pe_int) (pg_sub (pv 1) pe_int set_list))) pss_nil)
      (pss_cons (ps_while (passes_of rfl) (pt_cmpR op_gGt (pe_callB (kSum K rfl) (by rfl) T.m_sum (by decide +kernel) (pa_cons (pv 1) pa_nil)) pe_int (nomark _)) (pss_one (ps_asg (pe_op op_gSub (pe_callB (kMax K rfl) (by rfl) T.m_max (by decide +kernel) (pa_cons (pv 1) pa_nil)) pe_int) (pg_sub (pv 1) (kbm K PySem.F.plainAttrs_list PySem.F.slot_list_index PySem.F.type_list_index (kIndex K) (pv 1) (pa_cons (pe_callB (kMax K rfl) (by rfl) T.m_max (by decide +kernel) (pa_cons (pv 1) pa_nil)) pa_nil)) set_list))))
      (pss_cons (ps_if (pt_cmpR (kEq K hr.units) (pe_callB (kSum K rfl) (by rfl) T.m_sum (by decide +kernel) (pa_cons (pv 1) pa_nil)) pe_int (nomark _)) (pss_one (ps_asg pe_int (pg_sub (pv 1) pe_int set_list))) pss_nil)
      (pss_cons (ps_set (i := 2) sc_law.nd rfl (Or.inl rfl) (pe_callTy (kList K) (by rfl) T.m_list (by decide +kernel) (pa_cons (pv 1) pa_nil)))
      (pss_cons (ps_set (i := 3) sc_law.nd rfl (Or.inl rfl) (pe_callF (ok_how_many T) (hr.mono (by decide)) rfl passL (pa_cons (pv 2) pa_nil)))
      (pss_cons (ps_set (i := 4) sc_law.nd rfl (Or.inl rfl) (pe_callB (kSum K rfl) (by rfl) T.m_sum (by decide +kernel) (pa_cons (pe_lc (own := [("place", 6), ("count", 7)]) (g := gTup K 2 (gCons (gName 6) (gCons (gName 7) gNil))) rfl sc_law.nd (pi_enum rfl T.m_enumerate (pa_cons (pv 1) pa_nil)) (blkOk_by (N := n_law) (sc := defScope s_law) (by decide +kernel)) (fun _ _ _ _ _ => pg_tup rfl (pgs_cons (pg_name (i := 6) sc_law.nd rfl (Or.inl rfl)) (pgs_cons (pg_name (i := 7) sc_law.nd rfl (Or.inl rfl)) pgs_nil))) (fun _ _ _ _ _ => pts_nil) (fun _ _ _ _ _ => (pe_op op_gMul (pv 7) (pe_op op_gSub pe_int (pv 6))))) pa_nil)))
      (pss_cons (ps_if (PW.pt (pw_or (pt_cmpR (kNe K hr.units) (pv 2) (pv 1) (nomark _)) (pw_or1 (pt_not (pt_val (pe_callF (ok_law_whole T) (hr.mono (by decide)) rfl passL (pa_cons (pv 3) pa_nil))))))) (pss_one (ps_ret pe_bl)) pss_nil)
      (pss_cons (ps_if (pt_cmpR op_gLt (pv 4) pe_int (nomark _)) (pss_one (ps_ret (pe_cmpR (kEq K hr.units) (pv 3) pe_int (nomark _)))) pss_nil)
      (pss_one (ps_ret (pe_cmpR (kEq K hr.units) (pe_op op_gMul (pv 3) (pe_callB (kSum K rfl) (by rfl) T.m_sum (by decide +kernel) (pa_cons (pv 1) pa_nil))) (pe_op op_gMul (pv 4) (pe_callF (ok_law_multiples T) (hr.mono (by decide)) rfl passL (pa_cons (pv 1) pa_nil))) (nomark _)))))))))))))), ?_⟩)
  · obtain ⟨a, ns, rfl, _⟩ := h
    rfl
  obtain ⟨a, ns, rfl, hS, hl, hq⟩ := h
  try dsimp only [L2.cxOf]
  walk_at "s"
  refine ⟨a, ns, 0, rfl, hS, ?_⟩
  walk_at "s"
  have hn1 : 1 ≤ (1 + cell ns 0 % 8).toNat ∧ (1 + cell ns 0 % 8).toNat ≤ 8 := by omega
  refine rd_itR1 (1 + cell ns 0 % 8).toNat rfl (by omega) (by omega) ?_
  generalize (1 + cell ns 0 % 8).toNat = n at hn1
  obtain ⟨hn1, hn8⟩ := hn1
  refine lc_map (fun k => .int (cell ns (2 + k) % 10)) (Led.start H) ?_ ?_
  · intro i D H1 hi L1 t1
    walk_at "s"
    refine ⟨rfl, ?_⟩
    walk_at "s"
    refine ⟨a, ns, 2 + i, rfl, L1.seq hS, ?_⟩
    walk_at "s"
    exact rd_mapEnd [] L1 t1 (by omega) rfl
  intro p H1 L1 _
  have e0 : ((List.range n).map fun k => V.int (cell ns (2 + k) % 10)) = ((List.range n).map fun k => cell ns (2 + k) % 10).map V.int := by
    rw [List.map_map]
    rfl
  have hn0 : ∀ m ∈ (List.range n).map fun k => cell ns (2 + k) % 10, 0 ≤ m := fun m hm => by
    obtain ⟨k, _, rfl⟩ := List.mem_map.mp hm
    omega
  have hlen : ((List.range n).map fun k => cell ns (2 + k) % 10).length = n := by rw [List.length_map, List.length_range]
  rw [e0, ci_of hn0] at L1
  have hcl : (((List.range n).map fun k => cell ns (2 + k) % 10).map Int.toNat).length = n := by rw [List.length_map, hlen]
  generalize ((List.range n).map fun k => cell ns (2 + k) % 10).map Int.toNat = cs at L1 hcl
  clear e0 hn0 hlen
  walk_at "s"
  refine ⟨a, ns, 1, rfl, L1.seq hS, ?_⟩
  walk_at "s"
  refine if_two (fun σ H' => ∃ (cs : List Nat) (y z : Option V), σ = [some (.ref a), some (.ref p), none, none, none, none, y, z] ∧ Led H H' [(p, .lst ((ci cs).map V.int))] ∧ cs.length = n) ?g0 (fun nx' hN c => ?g1) (fun nx' hN c => ?g2)
  case g2 =>
    walk_at "s"
    exact hN _ _ ⟨cs, none, none, rfl, L1, hcl⟩
  case g1 =>
    walk_at "s"
    refine rd_itE (L1.sq 0) ?_
    refine lc_enum (ns := ci cs) (fun j m => .int (m * ((j : Nat) - 1))) L1 (fun H1 _ _ l1 L => (L.drop1).sq 0) ?_ ?_
    · intro i m D T H2 hi L t
      have hlt := (List.getElem?_eq_some_iff.mp hi).1
      rw [ci_len] at hlt
      walk_at "s"
      refine rd_gTwo L 0 rfl ⟨rfl, ?_⟩
      walk_at "s"
      refine rd_mulR (by omega) (by omega) ?_
      refine rd_mapEnd [_] L t (by omega) ?_
      unfold enumF
      rw [List.getD_eq_getElem?_getD, hi]
      rfl
    intro D H2 L2 _
    have e : (List.range (ci cs).length).map (enumF (ci cs) fun j m => .int (m * ((j : Nat) - 1))) = ((List.range cs.length).map fun i => (cs.getD i 0 : Int) * ((i : Int) - 1)).map V.int := by
      rw [ci_len, List.map_map]
      apply List.map_congr_left
      intro i _
      unfold enumF
      rw [ci_at]
      rfl
    rw [e] at L2
    walk_at "s"
    refine rd_sum (L2.sq 0) ?_
    walk_at "s"
    have hat : ∀ xs : List Int, xs.length = n → atI (xs.map V.int) 0 = some (.int (xs.getD 0 0)) := fun xs h => at_int (k := 0) (by omega) (by omega)
    refine rd_ixL (L2.sq 1) (hat (ci cs) (by rw [ci_len]; exact hcl)) ?_
    walk_at "s"
    generalize 1 + ((List.range cs.length).map fun i => (cs.getD i 0 : Int) * ((i : Int) - 1)).sum + (ci cs).getD 0 0 = x
    refine rd_setL (j := 0) L2 1 rfl (by rw [List.length_map, ci_len]; omega) fun H3 L3 _ => ?_
    have e3 : ((ci cs).map V.int).set 0 (V.int x) = ((ci cs).set 0 x).map V.int := by rw [List.map_set]
    have L3' : Led H H3 [(p, .lst (((ci cs).set 0 x).map V.int))] := (L3.drop1 (m := [_])).to (by rw [← e3])
    walk_at "s"
    refine rd_ixL (L3'.sq 0) (hat _ (by rw [List.length_set, ci_len]; exact hcl)) ?_
    walk_at "s"
    refine ⟨a, ns, 1, rfl, L3'.seq hS, ?_⟩
    walk_at "s"
    generalize hy : max 0 (((ci cs).set 0 x).getD 0 0) + cell ns 1 / 2 % 5 = y
    have hy0 : 0 ≤ y := by omega
    refine rd_setL (j := 0) L3' 0 rfl (by rw [List.length_map, List.length_set, ci_len]; omega) fun H4 L4 _ => ?_
    refine hN _ _ ⟨cs.set 0 y.toNat, _, _, rfl, L4.to ?_, by rw [List.length_set]; exact hcl⟩
    rw [ci_set, show ((y.toNat : Nat) : Int) = y by omega, ← e3, List.set_set]
    rfl
  case g0 =>
  clear L1 hcl cs
  rintro σ H2 ⟨cs, y, z, rfl, L2, hcl⟩
  walk_at "s"
  refine ⟨a, ns, 1, rfl, L2.seq hS, ?_⟩
  walk_at "s"
  refine if_two (fun σ H' => ∃ (cs : List Nat), σ = [some (.ref a), some (.ref p), none, none, none, none, y, z] ∧ Led H H' [(p, .lst ((ci cs).map V.int))] ∧ cs.length = n) ?h0 (fun nx' hN c => ?h1) (fun nx' hN c => ?h2)
  case h2 =>
    walk_at "s"
    exact hN _ _ ⟨cs, rfl, L2, hcl⟩
  case h1 =>
    walk_at "s"
    refine ⟨a, ns, 1, rfl, L2.seq hS, ?_⟩
    walk_at "s"
    generalize hy : cell ns 1 / 128 % 61 = x
    have hy0 : 0 ≤ x := by omega
    refine rd_setL (j := 0) L2 0 rfl (by rw [List.length_map, ci_len]; omega) fun H4 L4 _ => ?_
    refine hN _ _ ⟨cs.set 0 x.toNat, rfl, L4.to ?_, by rw [List.length_set]; exact hcl⟩
    rw [ci_set, show ((x.toNat : Nat) : Int) = x by omega]
    rfl
  case h0 =>
  clear L2 hcl cs
  rintro σ H3 ⟨cs, rfl, L3, hcl⟩
  walk_at "s"
  refine rd_while (fun m σ H' => ∃ (cs : List Nat), cs.sum = m ∧ σ = [some (.ref a), some (.ref p), none, none, none, none, y, z] ∧ Led H H' [(p, .lst ((ci cs).map V.int))] ∧ cs.length = n) cs.sum ⟨cs, rfl, rfl, L3, hcl⟩ ?_
  clear L3 hcl cs
  rintro m σ H4 ⟨cs, rfl, rfl, L4, hcl⟩
  walk_at "s"
  refine rd_sum (L4.sq 0) ?_
  rw [ci_sum]
  walk_at "s"
  refine ited (fun c => ?_) (fun c => ?_)
  · refine rd_wTurn ?_
    walk_at "s"
    refine rd_gMaxL (L4.sq 0) (by rw [ci_len]; omega) fun m hm hmx => ?_
    walk_at "s"
    refine rd_gMaxL (L4.sq 0) (by rw [ci_len]; omega) fun m2 hm2 hmx2 => ?_
    have em : m2 = m := by
      have := hmx m2 hm2
      have := hmx2 m hm
      omega
    subst em
    walk_at "s"
    refine rd_index (L4.sq 0) hm fun j hj hjm _ => ?_
    obtain ⟨c2, rfl, hc2⟩ := ci_get hjm
    have hpos : 0 < c2 := by
      rcases Nat.eq_zero_or_pos c2 with h | h
      · exfalso
        have hz : ∀ xs : List Nat, (∀ x ∈ ci xs, x ≤ 0) → xs.sum = 0 := fun xs => by
          induction xs with
          | nil => intro _; rfl
          | cons x xs ih =>
            intro h
            have h1 := h x (List.mem_cons_self ..)
            have h2 := ih fun q hq => h q (List.mem_cons_of_mem _ hq)
            rw [List.sum_cons]
            omega
        have := hz cs fun x hx => by
          have := hmx x hx
          omega
        omega
      · exact h
    have hgd : cs.getD j 0 = c2 := by rw [List.getD_eq_getElem?_getD, hc2]; rfl
    have hjl : j < cs.length := by rw [ci_len] at hj; exact hj
    have hls := less_sum cs j (by rw [hgd]; exact hpos)
    walk_at "s"
    refine rd_setL L4 0 rfl (by rw [List.length_map, ci_len]; exact hjl) fun H5 L5 _ => ?_
    refine ⟨(less cs j).sum, by omega, less cs j, rfl, rfl, L5.to ?_, by rw [less_len]; exact hcl⟩
    unfold less
    rw [ci_set, hgd, show ((c2 - 1 : Nat) : Int) = (c2 : Int) - 1 by omega]
    rfl
  walk_at "s"
  refine rd_sum (L4.sq 0) ?_
  rw [ci_sum]
  walk_at "s"
  refine if_two (fun σ H' => ∃ (cs : List Nat), σ = [some (.ref a), some (.ref p), none, none, none, none, y, z] ∧ Led H H' [(p, .lst ((ci cs).map V.int))] ∧ cs.length = n ∧ 0 < cs.sum ∧ cs.sum ≤ 60) ?i0 (fun nx' hN c => ?i1) (fun nx' hN c => ?i2)
  case i2 =>
    walk_at "s"
    exact hN _ _ ⟨cs, rfl, L4, hcl, by omega, by omega⟩
  case i1 =>
    walk_at "s"
    refine rd_setL (j := 0) L4 0 rfl (by rw [List.length_map, ci_len]; omega) fun H5 L5 _ => ?_
    have hz : (cs.set 0 1).sum = 1 := by
      cases cs with
      | nil =>
        simp only [List.length_nil] at hcl
        omega
      | cons x xs =>
        rw [List.sum_cons] at c
        rw [List.set_cons_zero, List.sum_cons]
        omega
    refine hN _ _ ⟨cs.set 0 1, rfl, L5.to ?_, by rw [List.length_set]; exact hcl, by omega, by omega⟩
    rw [ci_set]
    rfl
  case i0 =>
  clear L4 hcl c cs
  rintro σ H4 ⟨cs, rfl, L4, hcl, hpos, h60⟩
  walk_at "s"
  refine rd_list L4 (L4.sq 0) fun ph H5 L5 _ => ?_
  walk_at "s"
  refine ⟨ph, cs, rfl, L5.sq 0, by omega, by omega, fun H6 M6 => ?_⟩
  have L6 := L5.call M6
  walk_at "s"
  refine rd_itE (L6.sq 1) ?_
  refine lc_enum (ns := ci cs) (fun j m => .int (m * (1 - (j : Nat)))) L6 (fun H1 _ _ l1 L => (L.drop1).sq 1) ?_ ?_
  · intro i m D T H2 hi L t
    have hlt := (List.getElem?_eq_some_iff.mp hi).1
    rw [ci_len] at hlt
    walk_at "s"
    refine rd_gTwo L 0 rfl ⟨rfl, ?_⟩
    walk_at "s"
    refine rd_mulR (by omega) (by omega) ?_
    refine rd_mapEnd [_] L t (by omega) ?_
    unfold enumF
    rw [List.getD_eq_getElem?_getD, hi]
    rfl
  intro D H7 L7 _
  rw [trees_sum (K := K)] at L7
  walk_at "s"
  refine rd_sum (L7.sq 0) ?_
  rw [sumI_list]
  walk_at "s"
  refine rd_neLs (L7.sq 1) (L7.sq 2) ?_
  walk_at "s"
  refine ⟨hm cs, rfl, ?_⟩
  walk_at "s"
  have htl := trees_le cs
  refine ited (fun c => ?_) (fun c => ?_)
  · walk_at "s"
    have e : hm cs = 0 := by
      unfold hm
      exact if_pos c
    rw [e, decide_eq_true rfl]
    exact hq _
  · have c' : ¬ trees cs < 1 := c
    have hx := hm_mul hpos c'
    walk_at "s"
    refine rd_sum (L7.sq 2) ?_
    rw [ci_sum]
    walk_at "s"
    refine rd_mulR (by omega) (by omega) ?_
    walk_at "s"
    refine ⟨p, cs, rfl, L7.sq 2, by omega, ?_⟩
    walk_at "s"
    refine rd_mulL ?_ ?_ ?_
    · show _ < trees cs
      omega
    · show trees cs < _
      omega
    walk_at "s"
    rw [hx]
    show Q (.bl (decide (trees cs * ((mul cs : Nat) : Int) = trees cs * ((mul cs : Nat) : Int)))) _
    rw [decide_eq_true rfl]
    exact hq _
end Tr
namespace Tr
open PySem PySem.Spec PyProof.Rows L2
def sp_law_counts (K : PySem.W.Frag) : Sp := fun vs H Q _ => ∃ (a : Addr) (ws : List Nat), vs = [.ref a] ∧ SqL K H a ((ci ws).map V.int) ∧ 0 < ws.length ∧ mx ws ≤ 1000 ∧ newL H Q ((ci (cntOf ws)).map V.int)
theorem ok_law_counts {P : Program} {w : World} {K : PySem.W.Frag} {mg : Str → Option Value} {base : Heap} (T : Txt K mg) : Fn P w K mg base (L2.CX P w) 1 "_law_counts" ["word"] (sp_law_counts K) := by
  refine fnOf1 T.f_law_counts sc_law_counts (fun vs H Q E h => ?_) (fun f cdv A outer s H vs Q E hr h => ⟨_, (pss_cons (ps_setLc (i := 1) (own := [("number", 2)]) (g := gName 2) rfl sc_law_counts.nd rfl rfl (sw_true rfl rfl rfl (by decide +kernel)) (pi_range1 rfl T.m_range (pa_cons (pe_op op_gAdd (pe_callB (kMax K rfl) (by rfl) T.m_max (by decide +kernel) (pa_cons (pv 0) pa_nil)) pe_int) pa_nil)) (blkOk_by (N := n_law_counts) (sc := defScope s_law_counts) (by decide +kernel)) (fun _ _ _ _ _ => pg_name (i := 2) sc_law_counts.nd rfl (Or.inl rfl)) (fun _ _ _ _ _ => pts_nil) (fun _ _ _ _ _ => pe_int))
      (pss_cons (ps_for (passes_of rfl) rfl (kiList K (pv 0)) (pg_name (i := 2) sc_law_counts.nd rfl (Or.inl rfl)) (pss_one (ps_asg (pe_op op_gAdd (pe_ix (kIx K) (pv 1) (pv 2) (fun _ _ => rfl)) pe_int) (pg_sub (pv 1) (pv 2) set_list))))
      (pss_one (ps_ret (pv 1))))), ?_⟩)
  · obtain ⟨a, ws, rfl, _⟩ := h
    rfl
  obtain ⟨a, ws, rfl, hS, h0, hm, hq⟩ := h
  try dsimp only [L2.cxOf]
  walk_at "s"
  refine rd_gMaxL hS (by rw [ci_len]; exact h0) fun m m1 m2 => ?_
  rw [mx_ci h0 m1 m2]
  walk_at "s"
  refine rd_itR1 (mx ws + 1) (by omega) (by omega) (by omega) ?_
  refine lc_map (fun _ => .int 0) (Led.start H) ?_ ?_
  · intro i D H1 hi L1 t1
    walk_at "s"
    refine ⟨rfl, ?_⟩
    walk_at "s"
    exact rd_mapEnd [] L1 t1 (by omega) rfl
  intro p H1 L1 _
  walk_at "s"
  refine lp_ints (ns := ci ws) (fun i σ H' => ∃ y, σ = [some (.ref a), some (.ref p), y] ∧ Led H H' [(p, .lst ((List.range (mx ws + 1)).map fun l => V.int ((ws.take i).count l : Nat)))]) ⟨none, rfl, L1⟩ (fun i σ H' _ ⟨_, _, L⟩ => L.seq hS) ?_ ?_
  · rintro i n σ H2 hi ⟨y, rfl, L2⟩
    obtain ⟨c, rfl, hc⟩ := ci_get hi
    have hcm := le_mx (List.mem_of_getElem? hc)
    have hat : ((List.range (mx ws + 1)).map fun l => V.int ((ws.take i).count l : Nat))[c]? = some (.int ((ws.take i).count c : Nat)) := by
      rw [List.getElem?_map, List.getElem?_range (by omega)]
      rfl
    walk_at "s"
    refine rd_ixL (L2.sq 0) (atI_nat hat) ?_
    walk_at "s"
    refine rd_setL L2 0 rfl (by rw [List.length_map, List.length_range]; omega) fun H3 L3 _ => ?_
    refine ⟨_, rfl, L3.to ?_⟩
    have e : ((List.range (mx ws + 1)).map fun l => V.int ((ws.take i).count l : Nat)).set c (V.int (((ws.take i).count c : Nat) + 1)) = (List.range (mx ws + 1)).map fun l => V.int ((ws.take (i + 1)).count l : Nat) := by
      apply List.ext_getElem?
      intro j
      rw [List.getElem?_set, List.getElem?_map, List.getElem?_map, List.take_add_one, hc, Option.toList_some]
      simp only [List.count_append, List.length_map, List.length_range]
      by_cases hj : c = j
      · subst hj
        rw [if_pos rfl, if_pos (by omega), List.getElem?_range (by omega)]
        simp
      · rw [if_neg hj]
        by_cases hr : j < mx ws + 1
        · rw [List.getElem?_range hr]
          have : List.count j [c] = 0 := by simp [hj]
          show some (V.int _) = some (V.int _)
          rw [this, Nat.add_zero]
        · rw [List.getElem?_eq_none (by simpa using hr)]
          rfl
    rw [← e]
    rfl
  · rintro σ H2 ⟨y, rfl, L2⟩
    rw [ci_len, List.take_length] at L2
    walk_at "s"
    refine hq p H2 (L2.to ?_)
    unfold ci cntOf
    rw [List.map_map, List.map_map]
    rfl
end Tr
/-! The head: the facts of the top, read by a Hook of my own. -/
namespace Tr
open PySem PySem.Spec PyProof.Rows L2
def excB (K : PySem.W.Frag) (x : Str) : Bool :=
  He.eqO (PySem.W.findIn K (.ref (He.ga K x)) "__getattribute__") (some (some (.builtin "BaseException.__getattribute__"))) &&
  (He.eqO (PySem.W.findIn K (.ref (He.ga K x)) "__getattr__") (some none) &&
  (decide (PySem.W.subIn K (.ref (He.ga K x)) (.type "BaseException") = some true) &&
  (PySem.W.hasDictIn K (He.ga K x) &&
  (He.eqO (PySem.W.findIn K (.ref (He.ga K x)) "__class__") (some (some (.builtin "object.__class__"))) &&
  (He.eqO (PySem.W.specialIn K (.builtin "object.__class__") "__get__") (some (some (.builtin "getset_descriptor.__get__"))) &&
  (decide (PySem.W.takesIn K (.builtin "object.__class__") = some true) &&
  decide (PySem.W.mroIn K (He.ga K x) (.type "object") = some true)))))))
theorem excB_ok {K : PySem.W.Frag} {x : Str} (h : excB K x = true) : ExcC K (He.ga K x) := by
  unfold excB at h
  obtain ⟨h1, h⟩ := He.ba h
  obtain ⟨h2, h⟩ := He.ba h
  obtain ⟨h3, h⟩ := He.ba h
  obtain ⟨h4, h⟩ := He.ba h
  obtain ⟨h5, h⟩ := He.ba h
  obtain ⟨h6, h⟩ := He.ba h
  obtain ⟨h7, h8⟩ := He.ba h
  exact ⟨He.eqO_ok h1, He.eqO_ok h2, of_decide_eq_true h3, h4, He.eqO_ok h5, He.eqO_ok h6, of_decide_eq_true h7, of_decide_eq_true h8⟩
def kitO (K : PySem.W.Frag) (x y : Str) (b : Bool) : Bool := decide (PySem.W.kitOne K (.ref (He.ga K x)) (.ref (He.ga K y)) = some b)
def kitT (K : PySem.W.Frag) (x : Str) (n : String) : Bool := decide (PySem.W.kitOne K (.ref (He.ga K x)) (.type n) = some true)
def hookZ (n : Nat) (fa : List He.Fa) (fn : List He.DefD) (ex : PySem.W.Frag → Bool) : PySem.W.Hook where
  α := He.AlD × Bool
  obs := fun s => (He.obsD fa fn (He.frG s.heap.get? (He.asD s.heap.get? n)), ex (He.frG s.heap.get? (He.asD s.heap.get? n)))
  val := fun _ => (He.valD fn, true)
  says := fun _ h => ∃ K : PySem.W.Frag, K.In h ∧ He.SaysD fa fn K ∧ ex K = true
  of := fun _ _ e => ⟨_, He.frG_in, congrArg (fun z : He.AlD × Bool => z.1) e, congrArg (fun z : He.AlD × Bool => z.2) e⟩
  keeps := fun _ _ _ ⟨K, hK, c⟩ k => ⟨K, PySem.W.Frag.In.keeps hK k, c⟩
def obZ (n : Nat) (fa : List He.Fa) (fn : List He.DefD) (ex : PySem.W.Frag → Bool) (g : Addr → Option Obj) : He.AlD × Bool := (He.obsD fa fn (He.frG g (He.asD g n)), ex (He.frG g (He.asD g n)))
theorem obZ_eq {n : Nat} {fa : List He.Fa} {fn : List He.DefD} {ex : PySem.W.Frag → Bool} {g : Addr → Option Obj} {s : Shared} (h : ∀ a, g a = s.heap.get? a) : obZ n fa fn ex g = (hookZ n fa fn ex).obs s := by
  have e : g = s.heap.get? := funext h
  rw [e] <;> rfl
theorem okZero {P : Program} {w : World} {K : PySem.W.Frag} {mg : Str → Option Value} {base : Heap} {k : Nat} {f : Addr} {fd : FuncData} {ps : List Str} {sp : Sp} (F : FnOk P w K mg base (L2.CX P w) k f fd ps sp) (hs : ∀ vs H Q E, sp vs H Q E → sp vs H Q E0) :
    FnOk P w K mg base CX0 k f fd ps sp := by
  refine ⟨F.len, fun A outer s H args us vs Q E hr he hb hv h => codeAny_mono (F.run A outer s H args us vs Q E0 hr he hb hv (hs _ _ _ _ h)) fun r s' q => ?_⟩
  cases r with
  | ok fl => cases fl <;> exact q
  | error e =>
    obtain ⟨_, _, _, _, _, _, _, _, _, _, _, _, z⟩ := q
    exact z
section
variable {K : PySem.W.Frag} {h : Heap} {mg : Str → Option Value}
theorem exT_of (X : K.In h) (G : h.Ns mainGlobals mg) {x : Str} (g : (He.Fa.glo x).ok K = true) (e : (He.Fa.exc x).ok K = true) : ExcT K mg x := by
  obtain ⟨h1, h2, h3, h4⟩ := He.exc_ok e
  exact ⟨He.glo_ok X G g, h1, h2, h3, h4⟩
theorem txt1_of (X : K.In h) (G : h.Ns mainGlobals mg) {x : Str} {st : Stmt} {ps : List Str} (F : ∃ fd, FunD K x x (defArgs st) (defBody st) (defScope st) [] [] (He.ga K x) fd) (g : (He.Fa.glo x).ok K = true)
    (hb : ∀ (kV doc pm : Value) (an : Option Addr) (cdv ct : Value) (us : List Value), us.length = ps.length → bindArgs (PySem.W.fnOf x x (defArgs st) (defBody st) (defScope st) .none kV doc pm an cdv ct) ⟨us, []⟩ = pure (ps.zip us)) : Txt1 K mg x st ps := by
  obtain ⟨fd, F⟩ := F
  exact ⟨⟨fd, F, F.bindsN hb⟩, He.glo_ok X G g⟩
end
end Tr
namespace Tr
open PySem PySem.Spec PyProof.Rows L2
def fnZ_0 : List He.DefD := [⟨("factorial", none), "factorial", "factorial", defArgs s_factorial, defBody s_factorial, defScope s_factorial, [], []⟩, ⟨("lists_with", none), "lists_with", "lists_with", defArgs s_lists_with, defBody s_lists_with, defScope s_lists_with, [], []⟩, ⟨("trees_of", none), "trees_of", "trees_of", defArgs s_trees_of, defBody s_trees_of, defScope s_trees_of, [], []⟩, ⟨("how_many", none), "how_many", "how_many", defArgs s_how_many, defBody s_how_many, defScope s_how_many, [], []⟩, ⟨("_law_cell_at", none), "_law_cell_at", "_law_cell_at", defArgs s_law_cell_at, defBody s_law_cell_at, defScope s_law_cell_at, [], []⟩, ⟨("_law_whole", none), "_law_whole", "_law_whole", defArgs s_law_whole, defBody s_law_whole, defScope s_law_whole, [], []⟩, ⟨("_law_counts", none), "_law_counts", "_law_counts", defArgs s_law_counts, defBody s_law_counts, defScope s_law_counts, [], []⟩, ⟨("_law_multiples", none), "_law_multiples", "_law_multiples", defArgs s_law_multiples, defBody s_law_multiples, defScope s_law_multiples, [], []⟩, ⟨("law", none), "law", "law", defArgs s_law, defBody s_law, defScope s_law, [], []⟩]
def fnZ : List He.DefD := fnZ_0
def faZ_0 : List He.Fa := [.glo "factorial", .glo "lists_with", .glo "trees_of", .glo "how_many", .glo "_law_cell_at", .glo "_law_whole", .glo "_law_counts", .glo "_law_multiples", .glo "law", .free "bool", .free "enumerate", .free "int", .free "isinstance", .free "len", .free "list", .free "max"]
def faZ_1 : List He.Fa := [.free "range", .free "sum"]
def faZ : List He.Fa := faZ_0 ++ faZ_1
def exL (K : PySem.W.Frag) : List Bool := []
def exZ (K : PySem.W.Frag) : Bool := (exL K).all id
abbrev RZ : PySem.W.OpenRow := PySem.W.OpenLaw.row PySem.Challenge.rw_turnrow_k09_how_many_words
abbrev hkZ : PySem.W.Hook := hookZ 5 faZ fnZ exZ
def obsZ (s : PySem.W.SharedT) : He.AlD × Bool := obZ 5 faZ fnZ exZ (HandSHeadRun.getT s)
theorem obsZ_eq (s : PySem.W.SharedT) : obsZ s = hkZ.obs s.abs := obZ_eq (HandSHeadRun.getT_eq s)
def looseZ_0 : List Str := ["factorial", "lists_with", "trees_of", "how_many", "_law_cell_at", "_law_whole", "_law_counts", "_law_multiples"]
def looseZ : List Str := looseZ_0
theorem runZ (w : World) : HandSHeadRun.RunEq RZ (PySem.W.view RZ.prog [10]) hkZ obsZ 6000 looseZ w := by
  intro os
  kernel_rfl
theorem factsZ {P : Program} {w : World} {K : PySem.W.Frag} {h : Heap} {mg : Str → Option Value} {f : Addr} (X : K.In h) (G : h.Ns mainGlobals mg) (hfa : mg ("law" : Str) = some (.ref f)) (c : He.SaysD faZ fnZ K) (e : exZ K = true) :
    ∃ fd : FuncData, (∀ (s : Shared) (v : Value), BindsTo s fd ⟨[v], []⟩ [("script", v)]) ∧ ∀ base : Heap, K.In base → base.Ns mainGlobals mg → FnOk P w K mg base CX0 4 f fd ["script"] (sp_law K) := by
  have el : ∀ i b, (exL K)[i]? = some b → b = true := fun i b hb => List.all_eq_true.mp e b (List.mem_of_getElem? hb)
  have T : Txt K mg := {
    f_factorial := txt1_of X G (c.def_ 0 rfl) (c.fact 0 rfl) (fun _ _ _ _ _ _ us hl => match us, hl with | [_], _ => rfl)
    f_lists_with := txt1_of X G (c.def_ 1 rfl) (c.fact 1 rfl) (fun _ _ _ _ _ _ us hl => match us, hl with | [_], _ => rfl)
    f_trees_of := txt1_of X G (c.def_ 2 rfl) (c.fact 2 rfl) (fun _ _ _ _ _ _ us hl => match us, hl with | [_], _ => rfl)
    f_how_many := txt1_of X G (c.def_ 3 rfl) (c.fact 3 rfl) (fun _ _ _ _ _ _ us hl => match us, hl with | [_], _ => rfl)
    f_law_cell_at := txt1_of X G (c.def_ 4 rfl) (c.fact 4 rfl) (fun _ _ _ _ _ _ us hl => match us, hl with | [_, _], _ => rfl)
    f_law_whole := txt1_of X G (c.def_ 5 rfl) (c.fact 5 rfl) (fun _ _ _ _ _ _ us hl => match us, hl with | [_], _ => rfl)
    f_law_counts := txt1_of X G (c.def_ 6 rfl) (c.fact 6 rfl) (fun _ _ _ _ _ _ us hl => match us, hl with | [_], _ => rfl)
    f_law_multiples := txt1_of X G (c.def_ 7 rfl) (c.fact 7 rfl) (fun _ _ _ _ _ _ us hl => match us, hl with | [_], _ => rfl)
    f_law := txt1_of X G (c.def_ 8 rfl) (c.fact 8 rfl) (fun _ _ _ _ _ _ us hl => match us, hl with | [_], _ => rfl)
    m_bool := He.free_ok X G (c.fact 9 rfl)
    m_enumerate := He.free_ok X G (c.fact 10 rfl)
    m_int := He.free_ok X G (c.fact 11 rfl)
    m_isinstance := He.free_ok X G (c.fact 12 rfl)
    m_len := He.free_ok X G (c.fact 13 rfl)
    m_list := He.free_ok X G (c.fact 14 rfl)
    m_max := He.free_ok X G (c.fact 15 rfl)
    m_range := He.free_ok X G (c.fact 16 rfl)
    m_sum := He.free_ok X G (c.fact 17 rfl)
  }
  obtain ⟨fd, F⟩ := c.def_ 8 rfl
  have e2 := hfa.symm.trans (He.glo_ok X G (c.fact 8 rfl))
  cases e2
  have b := FunD.bindsA (ps := ["script"]) F fun _ _ _ _ _ _ us hl => match us, hl with | [_], _ => rfl
  refine ⟨fd, fun s v => b s [v] rfl, fun base _ _ => ?_⟩
  obtain ⟨⟨fd2, F2, _, hf⟩, _, _⟩ := ok_law (P := P) (w := w) (base := base) T
  obtain ⟨oc, od, _, _, _, _, _, _, _, osl, _, lk, _⟩ := id F.ex
  have e3 : fd2 = fd := hf.same ⟨oc, od, osl, lk⟩
  subst e3
  exact okZero F2 fun vs H Q E h => h
end Tr
open PySem PySem.W PySem.Calls PyProof.Rows
theorem PySem.Challenge.cw_turnrow_k09_how_many_words_holds : PySem.Challenge.rw_turnrow_k09_how_many_words.Holds := by
  w_on; o_law
  refine HandSHeadRun.head_any (r := OpenLaw.row PySem.Challenge.rw_turnrow_k09_how_many_words) (q := view (OpenLaw.row PySem.Challenge.rw_turnrow_k09_how_many_words).prog [10]) (H := Tr.hkZ) (ob := Tr.obsZ) (M := 6000) (loose := Tr.looseZ) (d := HandSHeadRun.topDef (OpenLaw.row PySem.Challenge.rw_turnrow_k09_how_many_words).prog 10) (kwd := []) Tr.obsZ_eq
    (by kernel_rfl) (fun s => by kernel_rfl) Tr.runZ (by kernel_rfl) (by kernel_rfl) (by kernel_rfl) (by rfl) (by first | assumption | decide +kernel) (by decide +kernel) ⟨rfl, rfl, rfl, rfl, rfl, by decide +kernel⟩ ?hw ?hc
  case hw => w_witness2
  case hc =>
    refine L2.walk_ofE (l := PySem.Challenge.rw_turnrow_k09_how_many_words) (n := 63) (k := 4) (x := "script") (CX := L2.CX0) rfl (by decide) (by kernel_rfl) ⟨rfl, by decide, by decide⟩ ?F (fun _ _ _ _ z => z)
    intro w mg fa h Y G hmg0
    obtain ⟨K, KX, c, e⟩ := Y
    have hmg : mg ("law" : PySem.Str) = some (.ref fa) := by
      have e : (HandSHeadRun.topDef (OpenLaw.row PySem.Challenge.rw_turnrow_k09_how_many_words).prog 10).name = ("law" : PySem.Str) := by kernel_rfl
      rw [← e]
      exact hmg0
    obtain ⟨fd, hb, hF⟩ := Tr.factsZ (P := (PySem.Challenge.rw_turnrow_k09_how_many_words).prog) (w := w) KX G hmg c e
    exact ⟨K, fd, Tr.sp_law K, KX, hb, fun H a ns hl _ hS => ⟨a, ns, rfl, hS, hl, fun _ => rfl⟩, hF⟩
#print axioms PySem.Challenge.cw_turnrow_k09_how_many_words_holds
