import PyProof.Rows.All
import Wide.All
import OpenK.AllK
import Wide.FinOn
import KE.KStateDown
import HandS.ForMost
import HandS.ForExc
import HandS.More
import HandS.Conv
import HandS.IsInst
import HandS.ExcIs
import HandS.Rev
import HandS.Style
import HandS.SortInts
import HandS.SetFor
import HandS.Wide
import HandS.TupLe
import HandS.Defaults
import HandS.Head0
import HandS.Head1
import HandS.Head2
import HandS.HeadEnd
import HandS.HeadHook1
import HandS.HeadHook2
import PySem.Challenge.RW_turnrow_k03_whole_just_so_many_starts
set_option Elab.async false
set_option linter.all false
set_option maxRecDepth 100000
set_option maxHeartbeats 4000000
/-! The ledger: what stands at the addresses that a def has made; the rest of the heap as it was. -/
namespace Tr
open PySem PySem.Spec PyProof.Rows L2

structure Led (H0 H : Hp) (l : List (Addr × HO)) : Prop where
  same : Same H0 H
  nd : (l.map (·.1)).Nodup
  new : ∀ p ∈ l, H0 p.1 = none
  has : ∀ p ∈ l, H p.1 = some p.2
/-- the tuples stay -/
def Ts (H H' : Hp) : Prop := ∀ b xs, H b = some (.tup xs) → H' b = some (.tup xs)
theorem Ts.refl (H : Hp) : Ts H H := fun _ _ h => h
theorem Ts.trans {A B C : Hp} (a : Ts A B) (b : Ts B C) : Ts A C := fun c xs h => b c xs (a c xs h)
theorem Ts.of {A B : Hp} (h : Same A B) : Ts A B := fun b xs e => h b _ e
theorem Same.push {H : Hp} {p : Addr} {o : HO} (h : H p = none) : Same H (upd H p o) := fun b x e => by
  rw [upd_ne (ne_of_none e h)]
  exact e
theorem Ts.put {H : Hp} {p : Addr} {xs : List V} {o : HO} (h : H p = some (.lst xs)) : Ts H (upd H p o) := fun b ys e => by
  have n : b ≠ p := fun z => by
    subst z
    rw [h] at e
    cases e
  rw [upd_ne n]
  exact e
section
variable {H0 H H' : Hp} {l m : List (Addr × HO)} {p q : Addr} {o o' : HO}
theorem Led.start (H : Hp) : Led H H [] := ⟨Same.refl H, by simp, by simp, by simp⟩
theorem Led.get (L : Led H0 H l) (i : Nat) (h : l[i]? = some (p, o) := by rfl) : H p = some o := L.has (p, o) (List.mem_of_getElem? h)
theorem Led.new' (L : Led H0 H l) (i : Nat) (h : l[i]? = some (p, o) := by rfl) : H0 p = none := L.new (p, o) (List.mem_of_getElem? h)
theorem Led.sq {K : PySem.W.Frag} {xs : List V} (L : Led H0 H l) (i : Nat) (h : l[i]? = some (p, .lst xs) := by rfl) : SqL K H p xs := SqL.of (L.get i h)
theorem Led.tq {K : PySem.W.Frag} {xs : List V} (L : Led H0 H l) (i : Nat) (h : l[i]? = some (p, .tup xs) := by rfl) : SqT K H p xs := SqT.of (L.get i h)
theorem Led.fresh (L : Led H0 H l) (h : H q = none) : q ∉ l.map (·.1) := fun z => by
  obtain ⟨x, hx, e⟩ := List.mem_map.mp z
  have := L.has x hx
  rw [e, h] at this
  cases this
theorem Led.push (L : Led H0 H l) (h : H p = none) : Led H0 (upd H p o) ((p, o) :: l) := by
  have h0 : H0 p = none := L.same.free h
  refine ⟨L.same.trans (Same.push h), ?_, ?_, ?_⟩
  · rw [List.map_cons, List.nodup_cons]
    exact ⟨L.fresh h, L.nd⟩
  · intro x hx
    rcases List.mem_cons.mp hx with rfl | hx
    · exact h0
    · exact L.new x hx
  · intro x hx
    rcases List.mem_cons.mp hx with rfl | hx
    · exact upd_same
    · have e := L.has x hx
      rw [upd_ne (ne_of_none e h)]
      exact e
theorem nodup_at {α β : Type} {l : List (α × β)} {i j : Nat} {a : α} {x y : β} (hn : (l.map (·.1)).Nodup) (h1 : l[i]? = some (a, x)) (h2 : l[j]? = some (a, y)) : i = j := by
  have e1 : (l.map (·.1))[i]? = some a := by rw [List.getElem?_map, h1]; rfl
  have e2 : (l.map (·.1))[j]? = some a := by rw [List.getElem?_map, h2]; rfl
  exact nodup_ix' hn e1 e2
where
  nodup_ix' {α : Type} {N : List α} (hN : N.Nodup) {i j : Nat} {x : α} (a : N[i]? = some x) (b : N[j]? = some x) : i = j := by
    obtain ⟨h1, e1⟩ := List.getElem?_eq_some_iff.mp a
    obtain ⟨h2, e2⟩ := List.getElem?_eq_some_iff.mp b
    exact (List.getElem_inj hN).mp (e1.trans e2.symm)
theorem Led.put (L : Led H0 H l) (i : Nat) (h : l[i]? = some (p, o)) : Led H0 (upd H p o') (l.set i (p, o')) := by
  have hp0 : H0 p = none := L.new' i h
  have hi : i < l.length := (List.getElem?_eq_some_iff.mp h).1
  have ek : (l.set i (p, o')).map (·.1) = l.map (·.1) := by
    apply List.ext_getElem?
    intro j
    rw [List.getElem?_map, List.getElem?_map, List.getElem?_set]
    by_cases e : i = j
    · subst e
      rw [if_pos rfl, if_pos hi, h]
      rfl
    · rw [if_neg e]
  refine ⟨fun b x e => ?_, ?_, ?_, ?_⟩
  · have n : b ≠ p := fun z => by
      subst z
      rw [hp0] at e
      cases e
    rw [upd_ne n]
    exact L.same b x e
  · rw [ek]
    exact L.nd
  · intro x hx
    rcases List.mem_or_eq_of_mem_set hx with hx | rfl
    · exact L.new x hx
    · exact hp0
  · intro x hx
    obtain ⟨j, hj⟩ := List.mem_iff_getElem?.mp hx
    rw [List.getElem?_set] at hj
    by_cases e : i = j
    · subst e
      rw [if_pos rfl, if_pos hi] at hj
      cases hj
      exact upd_same
    · rw [if_neg e] at hj
      have hx2 := L.get (p := x.1) (o := x.2) j hj
      have n : x.1 ≠ p := fun z => by
        have hj' : l[j]? = some (p, x.2) := by rw [hj, ← z]
        exact e (nodup_at L.nd h hj')
      rw [upd_ne n]
      exact hx2
theorem Led.call (L : Led H0 H l) (M : Led H H' m) : Led H0 H' (m ++ l) := by
  refine ⟨L.same.trans M.same, ?_, ?_, ?_⟩
  · rw [List.map_append, List.nodup_append]
    refine ⟨M.nd, L.nd, ?_⟩
    intro a ha b hb e
    subst e
    obtain ⟨x, hx, rfl⟩ := List.mem_map.mp ha
    obtain ⟨y, hy, e⟩ := List.mem_map.mp hb
    have e1 := M.new x hx
    have e2 := L.has y hy
    rw [e, e1] at e2
    cases e2
  · intro x hx
    rcases List.mem_append.mp hx with hx | hx
    · exact L.same.free (M.new x hx)
    · exact L.new x hx
  · intro x hx
    rcases List.mem_append.mp hx with hx | hx
    · exact M.has x hx
    · exact M.same _ _ (L.has x hx)
theorem Led.sub (L : Led H0 H l) (h : m.Sublist l) : Led H0 H m :=
  ⟨L.same, L.nd.sublist (h.map _), fun p hp => L.new p (h.mem hp), fun p hp => L.has p (h.mem hp)⟩
theorem Led.drop1 (L : Led H0 H (m ++ l)) : Led H0 H l := L.sub (List.sublist_append_right m l)
theorem Led.tail {x : Addr × HO} (L : Led H0 H (x :: l)) : Led H0 H l := L.sub (List.sublist_cons_self x l)
theorem Led.perm (L : Led H0 H l) (h : m.Perm l) : Led H0 H m :=
  ⟨L.same, (h.map _).nodup_iff.mpr L.nd, fun p hp => L.new p (h.mem_iff.mp hp), fun p hp => L.has p (h.mem_iff.mp hp)⟩
theorem Led.to (L : Led H0 H l) (e : l = m) : Led H0 H m := e ▸ L
theorem Led.ne (L : Led H0 H l) (hp : H0 p ≠ none) (i : Nat) (h : l[i]? = some (q, o)) : p ≠ q := fun z => by
  subst z
  exact hp (L.new' i h)
theorem Led.seq {K : PySem.W.Frag} {a : Addr} {xs : List V} (L : Led H0 H l) (h : SqL K H0 a xs) : SqL K H a xs := L.same.seq h
theorem Led.ts (L : Led H0 H l) : Ts H0 H := Ts.of L.same
end
theorem sz {n m : Nat} (h : n ≤ m) (hm : m ≤ 1000000 := by omega) : n ≤ sizeLine := by
  rw [sizeLine_eq]
  omega
theorem szl {n m : Nat} (h : n ≤ m) (hm : m ≤ 1000000 := by omega) : n < sizeLine := by
  rw [sizeLine_eq]
  omega

/-! ### a def by its name -/
/-- the function object of a name -/
def HasFd (K : PySem.W.Frag) (x : Str) (fd : FuncData) : Prop := ∃ oc od osl, K.lookup (He.ga K x) = some ⟨oc, od, .func fd, osl⟩
theorem HasFd.same {K : PySem.W.Frag} {x : Str} {fd fd' : FuncData} (h : HasFd K x fd) (h' : HasFd K x fd') : fd = fd' := by
  obtain ⟨a, b, c, e⟩ := h
  obtain ⟨a', b', c', e'⟩ := h'
  rw [e] at e'
  cases e'
  rfl
structure Fn (P : Program) (w : World) (K : PySem.W.Frag) (mg : Str → Option Value) (base : Heap) (CX : CXT) (k : Nat) (x : Str) (ps : List Str) (sp : Sp) : Prop where
  ex : ∃ fd, FnOk P w K mg base CX k (He.ga K x) fd ps sp ∧ Binds K fd ps [] ∧ HasFd K x fd
  gl : mg x = some (.ref (He.ga K x))
  kp : PySem.W.keepIn K (.ref (He.ga K x)) = true
theorem Fn.mono {P : Program} {w : World} {K : PySem.W.Frag} {mg : Str → Option Value} {base : Heap} {CX : CXT} {j k : Nat} {x : Str} {ps : List Str} {sp : Sp} (F : Fn P w K mg base CX j x ps sp) (h : j ≤ k) : Fn P w K mg base CX k x ps sp := by
  obtain ⟨⟨fd, a, b, e⟩, c, d⟩ := F
  exact ⟨⟨fd, a.mono h, b, e⟩, c, d⟩
/-- a def of the text -/
structure Txt1 (K : PySem.W.Frag) (mg : Str → Option Value) (x : Str) (st : Stmt) (ps : List Str) : Prop where
  ex : ∃ fd, FunD K x x (defArgs st) (defBody st) (defScope st) [] [] (He.ga K x) fd ∧ Binds K fd ps []
  gl : mg x = some (.ref (He.ga K x))
theorem fnOf1 {P : Program} {w : World} {K : PySem.W.Frag} {mg : Str → Option Value} {base : Heap} {CX : CXT} {k : Nat} {x : Str} {st : Stmt} {N ps : List Str} {sp : Sp} (F : Txt1 K mg x st ps) (S : FnScope N ps (defScope st)) (len : ∀ vs H Q E, sp vs H Q E → vs.length = ps.length)
    (hbody : ∀ (f : Addr) (cdv : Value) (A : Around) (outer : List Env) (s : Shared) (H : Hp) (vs : List V) (Q : VK) (E : XK), Room k (A.deeper (envOfC x (defScope st) s.heap.objs.size f cdv)) → sp vs H Q E →
      ∃ t, PSs (cxOf CX P w K mg base N x (defScope st) f cdv A outer s H E) (defBody st) t ∧ t { nx := fun _ H' => Q .non H', rt := Q } (start N vs) H) : Fn P w K mg base CX (k + 1) x ps sp := by
  obtain ⟨⟨fd, F1, b⟩, g⟩ := F
  obtain ⟨oc, od, _, _, _, _, _, _, _, osl, _, lk, _⟩ := id F1.ex
  exact ⟨⟨fd, F1.ok S len fun cdv A outer s H vs Q E hr h => hbody _ cdv A outer s H vs Q E hr h, b, oc, od, osl, lk⟩, g, F1.kp⟩
def tCallF (sp : Sp) (E : XK) (t : TA) : TE := fun σ H Q => t σ H fun vs H1 => sp vs H1 Q E
section
variable {X : Cx} {CX : CXT} {k : Nat} {ps : List Str} {sp : Sp} {E : XK} {x : Str} {p pos : Pos} {e : Expr} {es : List Expr} {t : TA}
theorem pe_callF (F : Fn X.prog X.w X.K X.mg X.base CX k x ps sp) (hr : Room k X.A) (hg : Gl X x) (hx : Passes CX X E) (ha : PA X (e :: es) t) (hdb : (x == ("__debug__" : Str)) = false := by decide)
    (he : starEach (e :: es) X.env = (false, eval e X.env) :: starEach es X.env := by rfl) (hpl : (backTo pos (starEach es X.env)).any (·.1) = false := by rfl) : PE X (.Call (.Name x p) (e :: es) [] pos) (tCallF sp E t) := by
  obtain ⟨⟨fd, a, b, _⟩, c, d⟩ := F
  have h := pe_call (p := p) (pos := pos) a hr hg c d b .nil hx ha hdb he hpl
  refine ⟨fun pins s σ H Q I q => h.run pins s σ H Q I ?_⟩
  have q' : t σ H fun vs H1 => sp vs H1 Q E := q
  show t σ H fun vs H1 => sp (vs ++ []) H1 Q E
  simpa only [List.append_nil] using q'
def tCallG (sp : Sp) (E : L2.St → XK) (t : TA) : TE := fun σ H Q => t σ H fun vs H1 => sp vs H1 Q (E σ)
theorem pe_callG {E : L2.St → XK} (F : Fn X.prog X.w X.K X.mg X.base CX k x ps sp) (hr : Room k X.A) (hg : Gl X x) (hx : ∀ σ, PassesAt CX X σ (E σ)) (ha : PA X (e :: es) t) (hdb : (x == ("__debug__" : Str)) = false := by decide)
    (he : starEach (e :: es) X.env = (false, eval e X.env) :: starEach es X.env := by rfl) (hpl : (backTo pos (starEach es X.env)).any (·.1) = false := by rfl) : PE X (.Call (.Name x p) (e :: es) [] pos) (tCallG sp E t) := by
  obtain ⟨⟨fd, a, b, _⟩, c, d⟩ := F
  have h := pe_callS (p := p) (pos := pos) (E := E) a hr hg c d b hx ha hdb he hpl
  exact ⟨fun pins s σ H Q I q => h.run pins s σ H Q I q⟩
end
end Tr
/-! The readings, step by step. -/
namespace Tr
open PySem PySem.Spec PyProof.Rows L2
section
variable {t u : TS} {te ta tb : TE} {D : Ends} {σ : L2.St} {H : Hp} {Q : VK} {g : TG} {i : Nat} {v x y : V} {c d : TT} {QB : Bool → Hp → Prop} {K : PySem.W.Frag}
theorem rd_seq (h : t { D with nx := u D } σ H) : tSeq t u D σ H := h
theorem rd_next (h : D.nx σ H) : tNext D σ H := h
theorem rd_brk (h : D.bk σ H) : tBreak D σ H := h
theorem rd_asg (h : te σ H fun x H1 => g x σ H1 D.nx) : tAsg te g D σ H := h
theorem rd_drop (h : te σ H fun _ H1 => D.nx σ H1) : tDrop te D σ H := h
theorem rd_ret (h : te σ H D.rt) : tRet te D σ H := h
theorem rd_retN (h : D.rt .non H) : tRetN D σ H := h
theorem rd_name {R : L2.St → Hp → Prop} (h : R (σ.set i (some v)) H) : gName i v σ H R := h
theorem rd_ifS (h : c σ H fun b H1 => if b = true then t D σ H1 else u D σ H1) : tIfS c t u D σ H := h
/-- a truth value that a test asks for -/
def isB (x : V) (p : Bool → Prop) : Prop := ∃ k, x = .bl k ∧ p k
theorem rd_isB {b : Bool} {p : Bool → Prop} (h : p b) : isB (.bl b) p := ⟨b, rfl, h⟩
theorem rd_test (h : te σ H fun x H1 => isB x fun k => QB k H1) : tTest te σ H QB := h
theorem rd_testB (h : te σ H fun x H1 => isB x fun k => QB k H1) : tB te σ H QB := h
theorem rd_and (h : c σ H fun b H1 => if b = true then d σ H1 QB else QB false H1) : tAnd c d σ H QB := h
theorem rd_or (h : c σ H fun b H1 => if b = true then QB true H1 else d σ H1 QB) : tOr c d σ H QB := h
theorem rd_not (h : c σ H fun b H1 => QB (!b) H1) : tNot c σ H QB := h
theorem rd_andV (h : ta σ H fun x H1 => isB x fun b => if b = true then tb σ H1 Q else Q (.bl false) H1) : tAndV ta tb σ H Q := h
theorem rd_orV (h : ta σ H fun x H1 => isB x fun b => if b = true then Q (.bl true) H1 else tb σ H1 Q) : tOrV ta tb σ H Q := h
theorem rd_notV (h : ta σ H fun x H1 => isB x fun b => Q (.bl (!b)) H1) : tNotV ta σ H Q := h
theorem rd_var (h : σ[i]? = some (some v)) (q : Q v H) : tVar i σ H Q := ⟨v, h, q⟩
theorem rd_c (q : Q v H) : tC v σ H Q := q
theorem rd_op {r : R2} (h : ta σ H fun x H1 => tb σ H1 fun y H2 => r x y H2 Q) : tOp r ta tb σ H Q := h
theorem rd_un {r : V → Hp → VK → Prop} (h : ta σ H fun x H1 => r x H1 Q) : tUn r ta σ H Q := h
variable {tA tR : TA} {QA : List V → Hp → Prop} {sp : Sp} {E : XK} {r : List V → Hp → VK → Prop}
theorem rd_nil (h : QA [] H) : tNil σ H QA := h
theorem rd_cons (h : te σ H fun x H1 => tR σ H1 fun xs H2 => QA (x :: xs) H2) : tCons te tR σ H QA := h
theorem rd_call (h : tA σ H fun vs H1 => sp vs H1 Q E) : tCallF sp E tA σ H Q := h
theorem rd_callG {E : L2.St → XK} (h : tA σ H fun vs H1 => sp vs H1 Q (E σ)) : tCallG sp E tA σ H Q := h
theorem rd_CB (h : tA σ H fun vs H1 => r vs H1 Q) : tCB r tA σ H Q := h
theorem rd_BM {T : String} {r : V → List V → Hp → VK → Prop} (h : te σ H fun x H1 => tyV K T x H1 ∧ tA σ H1 fun xs H2 => r x xs H2 Q) : tBM K T r te tA σ H Q := h
theorem rd_BM0 {T : String} {r : V → List V → Hp → VK → Prop} (h : te σ H fun x H1 => tyV K T x H1 ∧ r x [] H1 Q) : tBM0 K T r te σ H Q := h
theorem rd_ty {a : Addr} {xs : List V} {p : Prop} (h : SqL K H a xs) (q : p) : tyV K "list" (.ref a) H ∧ p := ⟨.inl ⟨rfl, _, h⟩, q⟩
theorem rd_tyS {z : Str} {p : Prop} (q : p) : tyV K "str" (.str z) H ∧ p := ⟨rfl, q⟩
theorem rd_sl {r : V → Option Int → Option Int → Hp → VK → Prop} {tl th : TO} (h : te σ H fun x H1 => tl σ H1 fun l H2 => th σ H2 fun u H3 => r x l u H3 Q) : tSl r te tl th σ H Q := h
theorem rd_noP {QO : Option Int → Hp → Prop} (h : QO none H) : tNoPart σ H QO := h
/-- an int that is asked for -/
def isI (x : V) (p : Int → Prop) : Prop := ∃ k, x = .int k ∧ p k
theorem rd_isI {n : Int} {p : Int → Prop} (h : p n) : isI (.int n) p := ⟨n, rfl, h⟩
theorem rd_part {QO : Option Int → Hp → Prop} (h : te σ H fun x H1 => isI x fun n => QO (some n) H1) : tPart te σ H QO := h
/-! ### values -/
theorem rd_i0 {f : Int → Int → V} {n m : Int} (q : Q (f n m) H) : rI0 f (.int n) (.int m) H Q := ⟨n, m, rfl, rfl, q⟩
theorem rd_i {C : Int → Int → Prop} {f : Int → Int → V} {n m : Int} (hc : C n m) (q : Q (f n m) H) : rI C f (.int n) (.int m) H Q := ⟨n, m, rfl, rfl, hc, q⟩
theorem rd_u {f : Int → V} {n : Int} (q : Q (f n) H) : rU f (.int n) H Q := ⟨n, rfl, q⟩
end

/-! ### + : ints, lists, texts -/
def rAddS : R2 := fun x y H Q => ∃ i j, x = .str i ∧ y = .str j ∧ i.length + j.length ≤ sizeLine ∧ Q (.str (i ++ j)) H
def gAdd : R2 := fun x y H Q => rI0 (fun i j => .int (i + j)) x y H Q ∨ rCat x y H Q ∨ rAddS x y H Q
theorem op_gAdd {X : Cx} : OpR X (binaryOp .Add) gAdd := op_add.or (op_cat.or (r' := rAddS) op_add_str)
def gSub : R2 := rI0 fun i j => .int (i - j)
theorem op_gSub {X : Cx} : OpR X (binaryOp .Sub) gSub := op_sub
def gMul : R2 := rI IntMulOk fun i j => .int (i * j)
theorem op_gMul {X : Cx} : OpR X (binaryOp .Mult) gMul := opI fun _ _ _ _ _ _ _ hc q => mul_int q hc
def gDiv : R2 := rI CDivW fun i j => .int (i / j)
theorem op_gDiv {X : Cx} : OpR X (binaryOp .FloorDiv) gDiv := op_fdivW
def gMod : R2 := rI (fun _ j => 0 < j) fun i j => .int (i % j)
theorem op_gMod {X : Cx} : OpR X (binaryOp .Mod) gMod := op_mod
def gLt : R2 := rI0 fun i j => .bl (decide (i < j))
theorem op_gLt {X : Cx} : OpR X (compareOp .Lt) gLt := op_lt
def gLe : R2 := rI0 fun i j => .bl (decide (i ≤ j))
theorem op_gLe {X : Cx} : OpR X (compareOp .LtE) gLe := op_le
def gGt : R2 := rI0 fun i j => .bl (decide (j < i))
theorem op_gGt {X : Cx} : OpR X (compareOp .Gt) gGt := op_gt
def gGe : R2 := rI0 fun i j => .bl (decide (j ≤ i))
theorem op_gGe {X : Cx} : OpR X (compareOp .GtE) gGe := op_ge
def gEq (K : PySem.W.Frag) : R2 := fun x y H Q => rEq x y H Q ∨ rEqD K x y H Q
theorem op_gEq {X : Cx} (hu : X.A.units + 64 < cLine) : OpR X (compareOp .Eq) (gEq X.K) := op_eq.or (op_eqD hu)
def gNe (K : PySem.W.Frag) : R2 := fun x y H Q => rNe x y H Q ∨ rNeD K x y H Q
theorem op_gNe {X : Cx} (hu : X.A.units + 64 < cLine) : OpR X (compareOp .NotEq) (gNe X.K) := op_ne.or (op_neD hu)
def gIsN : R2 := fun x y H Q => y = .non ∧ Q (.bl (decide (x = .non))) H
theorem op_gIsN {X : Cx} : OpR X (compareOp .Is) gIsN := op_isN
def gNeg : V → Hp → VK → Prop := rU fun i => .int (-i)
theorem op_gNeg {X : Cx} : UnR X (unaryOp .USub) gNeg := un_neg
section
variable {H0 H : Hp} {l : List (Addr × HO)} {Q : VK} {K : PySem.W.Frag} {p q a : Addr} {xs ys : List V} {n m : Int} {x y : V}
theorem rd_addI (h : Q (.int (n + m)) H) : gAdd (.int n) (.int m) H Q := .inl ⟨n, m, rfl, rfl, h⟩
theorem rd_addS {z w : Str} (hz : z.length + w.length ≤ sizeLine) (h : Q (.str (z ++ w)) H) : gAdd (.str z) (.str w) H Q := .inr (.inr ⟨z, w, rfl, rfl, hz, h⟩)
theorem rd_addL (L : Led H0 H l) (hp : H p = some (.lst xs)) (hq : H q = some (.lst ys)) (hz : xs.length + ys.length ≤ sizeLine) (h : ∀ r H', Led H0 H' ((r, .lst (xs ++ ys)) :: l) → Ts H H' → Q (.ref r) H') : gAdd (.ref p) (.ref q) H Q :=
  .inr (.inl ⟨p, q, xs, ys, rfl, rfl, hp, hq, hz, fun r hr => h r _ (L.push hr) (Ts.of (Same.push hr))⟩)
theorem rd_sub (h : Q (.int (n - m)) H) : gSub (.int n) (.int m) H Q := ⟨n, m, rfl, rfl, h⟩
theorem rd_mulL (h1 : -(2 ^ 64) < n) (h2 : n < 2 ^ 64) (h : Q (.int (n * m)) H) : gMul (.int n) (.int m) H Q := ⟨n, m, rfl, rfl, .of_left (intBits_le_64 h1 h2), h⟩
theorem rd_mulR (h1 : -(2 ^ 64) < m) (h2 : m < 2 ^ 64) (h : Q (.int (n * m)) H) : gMul (.int n) (.int m) H Q := ⟨n, m, rfl, rfl, .of_right (intBits_le_64 h1 h2), h⟩
theorem rd_mulW (hc : CMulW n m) (h : Q (.int (n * m)) H) : gMul (.int n) (.int m) H Q := ⟨n, m, rfl, rfl, hc.ok, h⟩
theorem rd_mul (hc : IntMulOk n m) (h : Q (.int (n * m)) H) : gMul (.int n) (.int m) H Q := ⟨n, m, rfl, rfl, hc, h⟩
theorem rd_div (hc : CDivW n m) (h : Q (.int (n / m)) H) : gDiv (.int n) (.int m) H Q := ⟨n, m, rfl, rfl, hc, h⟩
theorem rd_divK (h1 : (0 : Int) < m) (h2 : m < 1000000000000) (h : Q (.int (n / m)) H) : gDiv (.int n) (.int m) H Q :=
  ⟨n, m, rfl, rfl, wide_div (b := 40) h1 (by rw [show (2 : Nat) ^ 40 = 1099511627776 from by decide]; omega) (by decide) (by decide), h⟩
theorem rd_mod (hc : 0 < m) (h : Q (.int (n % m)) H) : gMod (.int n) (.int m) H Q := ⟨n, m, rfl, rfl, hc, h⟩
theorem rd_lt (h : Q (.bl (decide (n < m))) H) : gLt (.int n) (.int m) H Q := ⟨n, m, rfl, rfl, h⟩
theorem rd_le (h : Q (.bl (decide (n ≤ m))) H) : gLe (.int n) (.int m) H Q := ⟨n, m, rfl, rfl, h⟩
theorem rd_gt (h : Q (.bl (decide (m < n))) H) : gGt (.int n) (.int m) H Q := ⟨n, m, rfl, rfl, h⟩
theorem rd_ge (h : Q (.bl (decide (m ≤ n))) H) : gGe (.int n) (.int m) H Q := ⟨n, m, rfl, rfl, h⟩
theorem rd_neg (h : Q (.int (-n)) H) : gNeg (.int n) H Q := ⟨n, rfl, h⟩
theorem rd_eqI (h : Q (.bl (decide (n = m))) H) : gEq K (.int n) (.int m) H Q := .inl ⟨rfl, by simpa using h⟩
theorem rd_neI (h : Q (.bl (!decide (n = m))) H) : gNe K (.int n) (.int m) H Q := .inl ⟨rfl, by simpa using h⟩
theorem rd_eqS {z w : Str} (h : Q (.bl (decide (z = w))) H) : gEq K (.str z) (.str w) H Q := .inl ⟨rfl, by simpa using h⟩
theorem rd_neS {z w : Str} (h : Q (.bl (!decide (z = w))) H) : gNe K (.str z) (.str w) H Q := .inl ⟨rfl, by simpa using h⟩
theorem rd_eqB {z w : Bool} (h : Q (.bl (decide (z = w))) H) : gEq K (.bl z) (.bl w) H Q := .inl ⟨rfl, by simpa using h⟩
theorem rd_neB {z w : Bool} (h : Q (.bl (!decide (z = w))) H) : gNe K (.bl z) (.bl w) H Q := .inl ⟨rfl, by simpa using h⟩
theorem rd_isN (h : Q (.bl (decide (x = .non))) H) : gIsN x .non H Q := ⟨rfl, h⟩
theorem rd_eqD {d e : PyData} (hd : Dp K H x d) (he : Dp K H y e) (s1 : SeqAt.shaped d = true) (s2 : SeqAt.shaped e = true) (h : Q (.bl (PyData.eqv d e)) H) : gEq K x y H Q := .inr ⟨d, e, hd, he, s1, s2, h⟩
theorem rd_neD {d e : PyData} (hd : Dp K H x d) (he : Dp K H y e) (s1 : SeqAt.shaped d = true) (s2 : SeqAt.shaped e = true) (h : Q (.bl (!PyData.eqv d e)) H) : gNe K x y H Q := .inr ⟨d, e, hd, he, s1, s2, h⟩
/-! ### new lists and tuples -/
variable {σ : L2.St} {tA : TA} {QA : List V → Hp → Prop} {te : TE}
/-- a new list | tuple of these -/
def mkL (xs : List V) (H : Hp) (Q : VK) : Prop := xs.length ≤ sizeLine ∧ ∀ p, H p = none → Q (.ref p) (upd H p (.lst xs))
def mkT (xs : List V) (H : Hp) (Q : VK) : Prop := xs.length ≤ sizeLine ∧ ∀ p, H p = none → Q (.ref p) (upd H p (.tup xs))
theorem rd_lst (h : tA σ H fun xs H1 => mkL xs H1 Q) : tLst tA σ H Q := h
theorem rd_tup (h : tA σ H fun xs H1 => mkT xs H1 Q) : tTup tA σ H Q := h
theorem rd_mkL (L : Led H0 H l) (hz : xs.length ≤ sizeLine) (h : ∀ p H', Led H0 H' ((p, .lst xs) :: l) → Ts H H' → Q (.ref p) H') : mkL xs H Q := ⟨hz, fun p hp => h p _ (L.push hp) (Ts.of (Same.push hp))⟩
theorem rd_mkT (L : Led H0 H l) (hz : xs.length ≤ sizeLine) (h : ∀ p H', Led H0 H' ((p, .tup xs) :: l) → Ts H H' → Q (.ref p) H') : mkT xs H Q := ⟨hz, fun p hp => h p _ (L.push hp) (Ts.of (Same.push hp))⟩
/-- a slice of a list -/
theorem rd_slL {lo hi : Option Int} (L : Led H0 H l) (hs : SqL K H a xs) (h : ∀ p H', Led H0 H' ((p, .lst (cutV xs lo hi)) :: l) → Ts H H' → Q (.ref p) H') : rSlL K (.ref a) lo hi H Q := ⟨a, xs, rfl, hs, fun p hp => h p _ (L.push hp) (Ts.of (Same.push hp))⟩
/-! ### list methods -/
theorem rd_append (L : Led H0 H l) (i : Nat) (h : l[i]? = some (p, .lst xs)) (hz : xs.length < sizeLine) (k : ∀ H', Led H0 H' (l.set i (p, .lst (xs ++ [y]))) → Ts H H' → Q .non H') : rAppend (.ref p) [y] H Q :=
  ⟨p, xs, y, rfl, rfl, L.get i h, hz, k _ (L.put i h) (Ts.put (L.get i h))⟩
theorem rd_extend {zs : List V} (L : Led H0 H l) (i : Nat) (h : l[i]? = some (p, .lst xs)) (hq : H q = some (.lst zs)) (hz : xs.length + zs.length ≤ sizeLine) (k : ∀ H', Led H0 H' (l.set i (p, .lst (xs ++ zs))) → Ts H H' → Q .non H') : rExtend (.ref p) [.ref q] H Q :=
  ⟨p, q, xs, zs, rfl, rfl, L.get i h, hq, hz, k _ (L.put i h) (Ts.put (L.get i h))⟩
theorem rd_pop (L : Led H0 H l) (i : Nat) (h : l[i]? = some (p, .lst (xs ++ [y]))) (k : ∀ H', Led H0 H' (l.set i (p, .lst xs)) → Ts H H' → Q y H') : rPop (.ref p) [] H Q :=
  ⟨p, xs ++ [y], y, rfl, rfl, L.get i h, by simp, by simpa using k _ (L.put i h) (Ts.put (L.get i h))⟩
theorem rd_reverse (L : Led H0 H l) (i : Nat) (h : l[i]? = some (p, .lst xs)) (k : ∀ H', Led H0 H' (l.set i (p, .lst xs.reverse)) → Ts H H' → Q .non H') : rReverse (.ref p) [] H Q :=
  ⟨p, xs, rfl, rfl, L.get i h, k _ (L.put i h) (Ts.put (L.get i h))⟩
theorem rd_clear (L : Led H0 H l) (i : Nat) (h : l[i]? = some (p, .lst xs)) (k : ∀ H', Led H0 H' (l.set i (p, .lst [])) → Ts H H' → Q .non H') : rClear (.ref p) [] H Q :=
  ⟨p, xs, rfl, rfl, L.get i h, k _ (L.put i h) (Ts.put (L.get i h))⟩
/-! ### subscripts -/
theorem rd_ixL {v : V} (hs : SqL K H a xs) (h : atI xs n = some v) (k : Q v H) : rIx K (.ref a) (.int n) H Q := .inl ⟨a, xs, n, v, rfl, rfl, hs, h, k⟩
theorem rd_ixS {z : Str} {c : Nat} (hz : z.length ≤ sizeLine) (h : atI z.cps.toList n = some c) (k : Q (.str ⟨#[c]⟩) H) : rIx K (.str z) (.int n) H Q := .inr (.inr ⟨z, n, c, rfl, rfl, hz, h, k⟩)
/-! ### built-ins -/
def gLen (K : PySem.W.Frag) : List V → Hp → VK → Prop := fun xs H Q => ∃ x n, xs = [x] ∧ LenV K x H n ∧ Q (.int n) H
theorem cr_len {X : Cx} : CallR X (.builtin "len") (gLen X.K) := call_len
theorem rd_lenL (hs : SqL K H a xs) (k : Q (.int xs.length) H) : gLen K [.ref a] H Q := ⟨_, _, rfl, .inl ⟨xs, hs, rfl⟩, k⟩
theorem rd_lenT (hs : SqT K H a xs) (k : Q (.int xs.length) H) : gLen K [.ref a] H Q := ⟨_, _, rfl, .inr ⟨xs, hs, rfl⟩, k⟩
theorem rd_lenS {z : Str} (hz : z.length ≤ sizeLine) (k : Q (.int z.length) H) : gLen K [.str z] H Q := ⟨_, _, rfl, ⟨hz, rfl⟩, k⟩
def gList (K : PySem.W.Frag) : List V → Hp → VK → Prop := fun xs H Q => ∃ p ys, xs = [.ref p] ∧ (SqL K H p ys ∨ SqT K H p ys) ∧ ∀ l, H l = none → Q (.ref l) (upd H l (.lst ys))
theorem cr_list {X : Cx} : CallR X (.type "list") (gList X.K) := call_list_of
theorem rd_list (L : Led H0 H l) (hs : SqL K H a xs) (k : ∀ p H', Led H0 H' ((p, .lst xs) :: l) → Ts H H' → Q (.ref p) H') : gList K [.ref a] H Q := ⟨a, xs, rfl, .inl hs, fun p hp => k p _ (L.push hp) (Ts.of (Same.push hp))⟩
def gTuple (K : PySem.W.Frag) : List V → Hp → VK → Prop := fun xs H Q => ∃ p ys, xs = [.ref p] ∧ ((SqL K H p ys ∧ ∀ l, H l = none → Q (.ref l) (upd H l (.tup ys))) ∨ (SqT K H p ys ∧ Q (.ref p) H))
theorem cr_tuple {X : Cx} : CallR X (.type "tuple") (gTuple X.K) := call_tuple_of
theorem rd_tuple (L : Led H0 H l) (hs : SqL K H a xs) (k : ∀ p H', Led H0 H' ((p, .tup xs) :: l) → Ts H H' → Q (.ref p) H') : gTuple K [.ref a] H Q := ⟨a, xs, rfl, .inl ⟨hs, fun p hp => k p _ (L.push hp) (Ts.of (Same.push hp))⟩⟩
theorem rd_sum {ns : List Int} (hs : SqL K H a (ns.map V.int)) (k : Q (.int ns.sum) H) : rSum K [.ref a] H Q := ⟨a, ns, rfl, hs, k⟩
theorem rd_max {ns : List Int} (hs : SqL K H a (ns.map V.int)) (h0 : 0 < ns.length) (k : ∀ m, m ∈ ns → (∀ y, y ∈ ns → y ≤ m) → Q (.int m) H) : rMax K [.ref a] H Q := ⟨a, ns, rfl, hs, h0, k⟩
theorem rd_min {ns : List Int} (hs : SqL K H a (ns.map V.int)) (h0 : 0 < ns.length) (k : ∀ m, m ∈ ns → (∀ y, y ∈ ns → m ≤ y) → Q (.int m) H) : rMin K [.ref a] H Q := ⟨a, ns, rfl, hs, h0, k⟩
/-- max, min of a list, or of two ints -/
def gMax (K : PySem.W.Frag) : List V → Hp → VK → Prop := fun xs H Q => rMax K xs H Q ∨ ∃ i j, xs = [.int i, .int j] ∧ Q (.int (if j > i then j else i)) H
theorem cr_gMax {X : Cx} (hc : X.calm = true) : CallR X (.builtin "max") (gMax X.K) := (cr_max hc).or (call_max2 hc)
def gMin (K : PySem.W.Frag) : List V → Hp → VK → Prop := fun xs H Q => rMin K xs H Q ∨ ∃ i j, xs = [.int i, .int j] ∧ Q (.int (if j < i then j else i)) H
theorem cr_gMin {X : Cx} (hc : X.calm = true) : CallR X (.builtin "min") (gMin X.K) := (cr_min hc).or (call_min2 hc)
theorem rd_gMaxL {ns : List Int} (hs : SqL K H a (ns.map V.int)) (h0 : 0 < ns.length) (k : ∀ m, m ∈ ns → (∀ y, y ∈ ns → y ≤ m) → Q (.int m) H) : gMax K [.ref a] H Q := .inl ⟨a, ns, rfl, hs, h0, k⟩
theorem rd_gMinL {ns : List Int} (hs : SqL K H a (ns.map V.int)) (h0 : 0 < ns.length) (k : ∀ m, m ∈ ns → (∀ y, y ∈ ns → m ≤ y) → Q (.int m) H) : gMin K [.ref a] H Q := .inl ⟨a, ns, rfl, hs, h0, k⟩
theorem rd_gMax2 (k : Q (.int (max n m)) H) : gMax K [.int n, .int m] H Q := .inr ⟨n, m, rfl, by
  have e : (if m > n then m else n) = max n m := by split <;> omega
  rw [e]
  exact k⟩
theorem rd_gMin2 (k : Q (.int (min n m)) H) : gMin K [.int n, .int m] H Q := .inr ⟨n, m, rfl, by
  have e : (if m < n then m else n) = min n m := by split <;> omega
  rw [e]
  exact k⟩
def gInt : List V → Hp → VK → Prop := fun xs H Q => (∃ i, xs = [.int i] ∧ Q (.int i) H) ∨ ∃ k, xs = [.bl k] ∧ Q (.int (if k then 1 else 0)) H
theorem cr_int {X : Cx} : CallR X (.type "int") gInt := call_int1
theorem rd_intB {b : Bool} (k : Q (.int (if b then 1 else 0)) H) : gInt [.bl b] H Q := .inr ⟨b, rfl, k⟩
theorem rd_sorted {ns : List Int} (L : Led H0 H l) (hs : SqL K H a (ns.map V.int)) (k : ∀ (ms : List Int) p H', ms.Perm ns → ms.Pairwise (· ≤ ·) → Led H0 H' ((p, .lst (ms.map V.int)) :: l) → Ts H H' → Q (.ref p) H') : rSortedI K [.ref a] H Q :=
  ⟨a, ns, rfl, hs, fun ms p h1 h2 hp => k ms p _ h1 h2 (L.push hp) (Ts.of (Same.push hp))⟩
theorem rd_count {ns : List Int} (hs : SqL K H a (ns.map V.int)) (k : Q (.int (ns.count n : Nat)) H) : rCntI K (.ref a) [.int n] H Q := ⟨a, ns, n, rfl, rfl, hs, k⟩
/-- isinstance -/
theorem rd_isi {T : String} {t : Value} {b : Bool} (ht : TyX K H x t) (hk : PySem.W.kitOne K t (.type T) = some b) (k : Q (.bl b) H) : rIsi K [x, .ty T] H Q := ⟨x, .ty T, t, _, b, rfl, .ty T, ht, hk, k⟩
end
end Tr
/-! Loops, comprehensions, raise and try. -/
namespace Tr
open PySem PySem.Spec PyProof.Rows L2
section
variable {t u : TS} {te tl : TE} {D : Ends} {σ : L2.St} {H H0 : Hp} {Q : VK} {g : TG} {tb : TS} {K : PySem.W.Frag} {a : Addr} {xs : List V} {wi : TI} {J : It} {R : It → Hp → Prop} {l : List (Addr × HO)}
/-- a loop over what has come -/
def lp (J : It) (g : TG) (tb : TS) : TS := tFor (fun _ H R => R J H) g tb
theorem rd_for (h : wi σ H fun J H1 => lp J g tb D σ H1) : tFor wi g tb D σ H := h
def itL (K : PySem.W.Frag) (x : V) (H : Hp) (R : It → Hp → Prop) : Prop := ∃ a, x = .ref a ∧ (∃ xs, SqL K H a xs) ∧ R (Itl K a) H
def itT (K : PySem.W.Frag) (x : V) (H : Hp) (R : It → Hp → Prop) : Prop := ∃ a, x = .ref a ∧ (∃ xs, SqT K H a xs) ∧ R (Itt K a) H
def itS (x : V) (H : Hp) (R : It → Hp → Prop) : Prop := ∃ z, x = .str z ∧ R (Its z) H
theorem rd_iList (h : tl σ H fun x H1 => itL K x H1 R) : iList K tl σ H R := h
theorem rd_iTup (h : tl σ H fun x H1 => itT K x H1 R) : iTup K tl σ H R := h
theorem rd_iStr (h : tl σ H fun x H1 => itS x H1 R) : iStr tl σ H R := h
theorem rd_itL (hs : SqL K H a xs) (h : R (Itl K a) H) : itL K (.ref a) H R := ⟨a, rfl, ⟨xs, hs⟩, h⟩
theorem rd_itT (hs : SqT K H a xs) (h : R (Itt K a) H) : itT K (.ref a) H R := ⟨a, rfl, ⟨xs, hs⟩, h⟩
theorem rd_itS {z : Str} (h : R (Its z) H) : itS (.str z) H R := ⟨z, rfl, h⟩
variable {tA : TA}
def itR1 (vs : List V) (H : Hp) (R : It → Hp → Prop) : Prop := ∃ j : Int, vs = [.int j] ∧ -(2 ^ 62) ≤ j ∧ j < 2 ^ 62 ∧ R (Itr 0 j.toNat) H
def itR2 (vs : List V) (H : Hp) (R : It → Hp → Prop) : Prop := ∃ i j : Int, vs = [.int i, .int j] ∧ (-(2 ^ 62) ≤ i ∧ i < 2 ^ 62 ∧ -(2 ^ 62) ≤ j ∧ j < 2 ^ 62) ∧ R (Itr i (j - i).toNat) H
def itR3 (vs : List V) (H : Hp) (R : It → Hp → Prop) : Prop := ∃ (i j c : Int) (n : Nat), vs = [.int i, .int j, .int c] ∧ RgC i j c n ∧ R (Itc i c n) H
theorem rd_iRng1 (h : tA σ H fun vs H1 => itR1 vs H1 R) : iRng1 tA σ H R := h
theorem rd_iRng2 (h : tA σ H fun vs H1 => itR2 vs H1 R) : iRng2 tA σ H R := h
theorem rd_iRng3 (h : tA σ H fun vs H1 => itR3 vs H1 R) : iRng3 tA σ H R := h
theorem rd_itR1 {j : Int} (n : Nat) (e : j.toNat = n) (h1 : -(2 ^ 62) ≤ j) (h2 : j < 2 ^ 62) (h : R (Itr 0 n) H) : itR1 [.int j] H R := ⟨j, rfl, h1, h2, e ▸ h⟩
theorem rd_itR2 {i j : Int} (n : Nat) (e : (j - i).toNat = n) (h1 : -(2 ^ 62) ≤ i ∧ i < 2 ^ 62 ∧ -(2 ^ 62) ≤ j ∧ j < 2 ^ 62) (h : R (Itr i n) H) : itR2 [.int i, .int j] H R := ⟨i, j, rfl, h1, e ▸ h⟩
theorem rd_itRd {i j : Int} (n : Nat) (e : (i - j).toNat = n) (h1 : -(2 ^ 62) ≤ i) (h2 : i < 2 ^ 62) (h3 : -(2 ^ 62) ≤ j) (h4 : j < 2 ^ 62) (h : R (Itc i (-1) n) H) : itR3 [.int i, .int j, .int (-1)] H R := ⟨i, j, -1, n, rfl, e ▸ RgC.neg h1 h2 h3 h4, h⟩
def itV (K : PySem.W.Frag) (v : V) (H : Hp) (R : It → Hp → Prop) : Prop := ∃ (a : Addr) (xs : List V), v = .ref a ∧ ((SqL K H a xs ∧ R (Itv K a xs.length) H) ∨ (SqT K H a xs ∧ R (RT.ItvT K a xs.length) H))
theorem rd_iRev (h : te σ H fun v H1 => itV K v H1 R) : RT.iRevA K te σ H R := h
theorem rd_itV (hs : SqL K H a xs) (h : R (Itv K a xs.length) H) : itV K (.ref a) H R := ⟨a, xs, rfl, .inl ⟨hs, h⟩⟩
/-! ### the loops -/
abbrev Turn1 (tb : TS) (D : Ends) (N : L2.St → Hp → Prop) : L2.St → Hp → Prop := tb { D with nx := N, ct := N, bk := D.nx }
theorem lp_list (Pv : Nat → L2.St → Hp → Prop) (h0 : Pv 0 σ H) (hl : ∀ i σ H, i ≤ xs.length → Pv i σ H → SqL K H a xs)
    (hs : ∀ i x σ H, xs[i]? = some x → Pv i σ H → g x σ H (Turn1 tb D (Pv (i + 1)))) (hd : ∀ σ H, Pv xs.length σ H → D.nx σ H) : lp (Itl K a) g tb D σ H := for_list Pv h0 hl hs hd
theorem lp_ints {ns : List Int} (Pv : Nat → L2.St → Hp → Prop) (h0 : Pv 0 σ H) (hl : ∀ i σ H, i ≤ ns.length → Pv i σ H → SqL K H a (ns.map V.int))
    (hs : ∀ i n σ H, ns[i]? = some n → Pv i σ H → g (.int n) σ H (Turn1 tb D (Pv (i + 1)))) (hd : ∀ σ H, Pv ns.length σ H → D.nx σ H) : lp (Itl K a) g tb D σ H := by
  refine lp_list (xs := ns.map V.int) Pv h0 (fun i σ H hi => hl i σ H (by simpa using hi)) (fun i x σ H hx hp => ?_) (fun σ H h => hd σ H (by simpa using h))
  rw [List.getElem?_map] at hx
  cases e : ns[i]? with
  | none => rw [e] at hx; cases hx
  | some n =>
    rw [e] at hx
    cases hx
    exact hs i n σ H e hp
theorem lp_tup (Pv : Nat → L2.St → Hp → Prop) (h0 : Pv 0 σ H) (hl : ∀ i σ H, i ≤ xs.length → Pv i σ H → SqT K H a xs)
    (hs : ∀ i x σ H, xs[i]? = some x → Pv i σ H → g x σ H (Turn1 tb D (Pv (i + 1)))) (hd : ∀ σ H, Pv xs.length σ H → D.nx σ H) : lp (Itt K a) g tb D σ H := for_tup Pv h0 hl hs hd
theorem lp_rng {lo : Int} {n : Nat} (Pv : Nat → L2.St → Hp → Prop) (h0 : Pv 0 σ H)
    (hs : ∀ i σ H, i < n → Pv i σ H → g (.int (lo + i)) σ H (Turn1 tb D (Pv (i + 1)))) (hd : ∀ σ H, Pv n σ H → D.nx σ H) : lp (Itr lo n) g tb D σ H := for_range Pv h0 hs hd
theorem lp_rng0 {n : Nat} (Pv : Nat → L2.St → Hp → Prop) (h0 : Pv 0 σ H)
    (hs : ∀ i σ H, i < n → Pv i σ H → g (.int (i : Nat)) σ H (Turn1 tb D (Pv (i + 1)))) (hd : ∀ σ H, Pv n σ H → D.nx σ H) : lp (Itr 0 n) g tb D σ H := for_range Pv h0 (fun i σ H hi hp => by
      have e : (0 : Int) + (i : Nat) = (i : Nat) := by omega
      rw [e]
      exact hs i σ H hi hp) hd
theorem lp_rngC {lo c : Int} {n : Nat} (Pv : Nat → L2.St → Hp → Prop) (h0 : Pv 0 σ H)
    (hs : ∀ i σ H, i < n → Pv i σ H → g (.int (lo + (i : Nat) * c)) σ H (Turn1 tb D (Pv (i + 1)))) (hd : ∀ σ H, Pv n σ H → D.nx σ H) : lp (Itc lo c n) g tb D σ H := for_rangeC Pv h0 hs hd
theorem lp_rev (Pv : Nat → L2.St → Hp → Prop) (h0 : Pv 0 σ H) (hq : ∀ i σ H, Pv i σ H → SqL K H a xs)
    (hs : ∀ (i : Nat) (x : V) (σ : L2.St) (H : Hp), i < xs.length → xs[xs.length - 1 - i]? = some x → Pv i σ H → g x σ H (Turn1 tb D (Pv (i + 1)))) (hd : ∀ σ H, Pv xs.length σ H → D.nx σ H) : lp (Itv K a xs.length) g tb D σ H := RT.for_Itv Pv h0 hq hs hd
theorem lp_str {z : Str} (Pv : Nat → L2.St → Hp → Prop) (h0 : Pv 0 σ H)
    (hs : ∀ i c σ H, z.cps[i]? = some c → Pv i σ H → g (.str ⟨#[c]⟩) σ H (Turn1 tb D (Pv (i + 1)))) (hd : ∀ σ H, Pv z.cps.size σ H → D.nx σ H) : lp (Its z) g tb D σ H := by
  refine ⟨fun i m σ H => m = z.cps.size - i ∧ i ≤ z.cps.size ∧ Pv i σ H, ⟨z.cps.size, by simp, Nat.zero_le _, h0⟩, ?_⟩
  rintro i m σ H ⟨rfl, hi, p⟩
  by_cases hlt : i < z.cps.size
  · refine .inr ⟨hlt, Pv (i + 1), fun σ' H' p' => ⟨z.cps.size - (i + 1), by omega, rfl, hlt, p'⟩, fun x H' y => ?_⟩
    obtain ⟨e, c, hc, y⟩ := y
    subst e y
    exact hs i c σ _ hc p
  · have e : i = z.cps.size := by omega
    subst e
    exact .inl ⟨Nat.le_refl _, hd σ H p⟩
/-- while, by a word and a measure -/
def wTurn (W : Nat → L2.St → Hp → Prop) (m : Nat) (tb : TS) : TS := fun D σ H => ∃ N : L2.St → Hp → Prop, (∀ σ' H', N σ' H' → ∃ m', m' < m ∧ W m' σ' H') ∧ Turn1 tb D N σ H
theorem rd_wTurn {W : Nat → L2.St → Hp → Prop} {m : Nat} (h : Turn1 tb D (fun σ' H' => ∃ m', m' < m ∧ W m' σ' H') σ H) : wTurn W m tb D σ H := ⟨_, fun _ _ p => p, h⟩
theorem rd_while {c : TT} (W : Nat → L2.St → Hp → Prop) (m : Nat) (h0 : W m σ H)
    (hs : ∀ m σ H, W m σ H → c σ H fun b H1 => if b = true then wTurn W m tb D σ H1 else D.nx σ H1) : tWhile c tb D σ H := ⟨W, ⟨m, h0⟩, fun m σ H w => hs m σ H w⟩
/-! ### comprehensions -/
variable {tt : TT} {vs : List Nat}
def lc (J : It) (g : TG) (tt : TT) (te : TE) (vs : List Nat) : TE := tLc (fun _ H R => R J H) g tt te vs
theorem rd_lc (h : wi σ H fun J H1 => lc J g tt te vs σ H1 Q) : tLc wi g tt te vs σ H Q := h
/-- a turn's end: the new item y is put behind -/
def put1 (D : Addr) (N : Hp → Prop) (y : V) (H4 : Hp) : Prop := ∃ acc, H4 D = some (.lst acc) ∧ acc.length < sizeLine ∧ N (upd H4 D (.lst (acc ++ [y])))
theorem rd_put1 {D : Addr} {acc : List V} {N : Hp → Prop} {y : V} (L : Led H0 H l) (i : Nat) (hi : l[i]? = some (D, .lst acc)) (hz : acc.length < sizeLine) (h : ∀ H5, Led H0 H5 (l.set i (D, .lst (acc ++ [y]))) → Ts H H5 → N H5) : put1 D N y H :=
  ⟨acc, L.get i hi, hz, h _ (L.put i hi) (Ts.put (L.get i hi))⟩
theorem lc_rng {lo : Int} {n : Nat} {vs : List Nat} (L : Led H0 H l)
    (h : ∀ D H1, Led H0 H1 ((D, .lst []) :: l) → Ts H H1 → ∃ Pv : Nat → Hp → Prop, Pv 0 H1 ∧
      (∀ i H1, i < n → Pv i H1 → g (.int (lo + (i : Nat))) (wipe σ vs) H1 fun σ2 H2 => wipe σ2 vs = wipe σ vs ∧ tt σ2 H2 fun b H3 => if b = true then te σ2 H3 (put1 D (Pv (i + 1))) else Pv (i + 1) H3) ∧
      (∀ H1, Pv n H1 → Q (.ref D) H1)) : lc (Itr lo n) g tt te vs σ H Q := by
  intro D hD
  obtain ⟨Pv, h0, hs, hd⟩ := h D _ (L.push hD) (Ts.of (Same.push hD))
  exact lc_range Pv h0 hs hd
theorem lc_lst {vs : List Nat} (L : Led H0 H l)
    (h : ∀ D H1, Led H0 H1 ((D, .lst []) :: l) → Ts H H1 → ∃ Pv : Nat → Hp → Prop, Pv 0 H1 ∧ (∀ i H, i ≤ xs.length → Pv i H → SqL K H a xs) ∧
      (∀ i x H1, xs[i]? = some x → Pv i H1 → g x (wipe σ vs) H1 fun σ2 H2 => wipe σ2 vs = wipe σ vs ∧ tt σ2 H2 fun b H3 => if b = true then te σ2 H3 (put1 D (Pv (i + 1))) else Pv (i + 1) H3) ∧
      (∀ H1, Pv xs.length H1 → Q (.ref D) H1)) : lc (Itl K a) g tt te vs σ H Q := by
  intro D hD
  obtain ⟨Pv, h0, hl, hs, hd⟩ := h D _ (L.push hD) (Ts.of (Same.push hD))
  exact L2.lc_list Pv h0 hl hs hd
/-- a list of what f tells of each place -/
def mapW (H0 H : Hp) (l : List (Addr × HO)) (f : Nat → V) (D : Addr) (i : Nat) (H2 : Hp) : Prop := Led H0 H2 ((D, .lst ((List.range i).map f)) :: l) ∧ Ts H H2
theorem rd_mapEnd {f : Nat → V} {i : Nat} {D : Addr} {H3 : Hp} (l' : List (Addr × HO)) (L : Led H0 H3 (l' ++ (D, .lst ((List.range i).map f)) :: l)) (t : Ts H H3) (hi : i < 1000000) {y : V} (e : y = f i) : put1 D (mapW H0 H l f D (i + 1)) y H3 := by
  subst e
  refine rd_put1 L.drop1 0 rfl (by rw [List.length_map, List.length_range]; exact szl (Nat.le_of_lt hi)) fun H5 L5 t5 => ⟨L5.to ?_, t.trans t5⟩
  rw [List.range_succ, List.map_append]
  rfl
theorem lc_map {n : Nat} {vs : List Nat} (f : Nat → V) (L : Led H0 H l)
    (hs : ∀ i D H1, i < n → Led H0 H1 ((D, .lst ((List.range i).map f)) :: l) → Ts H H1 → g (.int (i : Nat)) (wipe σ vs) H1 fun σ2 H2 => wipe σ2 vs = wipe σ vs ∧ tt σ2 H2 fun b H3 => if b = true then te σ2 H3 (put1 D (mapW H0 H l f D (i + 1))) else mapW H0 H l f D (i + 1) H3)
    (hd : ∀ D H1, Led H0 H1 ((D, .lst ((List.range n).map f)) :: l) → Ts H H1 → Q (.ref D) H1) : lc (Itr 0 n) g tt te vs σ H Q := by
  refine lc_rng L fun D H1 L1 t1 => ⟨mapW H0 H l f D, ⟨L1, t1⟩, fun i H2 hi ⟨L2, t2⟩ => ?_, fun H2 ⟨L2, t2⟩ => hd D H2 L2 t2⟩
  have e : (0 : Int) + (i : Nat) = (i : Nat) := by omega
  rw [e]
  exact hs i D H2 hi L2 t2
theorem gName_mono {i : Nat} : ∀ (x : V) (σ : L2.St) (H : Hp) (R R' : L2.St → Hp → Prop), (∀ σ2 H2, R σ2 H2 → R' σ2 H2) → gName i x σ H R → gName i x σ H R' := fun _ _ _ _ _ h q => h _ _ q
theorem tYes_mono : ∀ (σ : L2.St) (H : Hp) (Q Q' : Bool → Hp → Prop), (∀ b H1, Q b H1 → Q' b H1) → tYes σ H Q → tYes σ H Q' := fun _ _ _ _ h q => h _ _ q
theorem rd_yes {QB : Bool → Hp → Prop} (h : QB true H) : tYes σ H QB := h
end
/-! ### raise -/
structure ExcT (K : PySem.W.Frag) (mg : Str → Option Value) (x : Str) : Prop where
  gl : mg x = some (.ref (He.ga K x))
  xc : PySem.W.excIn K (He.ga K x) He.veBase "ValueError.__new__" = true
  kp : PySem.W.keepIn K (.ref (He.ga K x)) = true
  bs : PySem.W.subIn K (.ref (He.ga K x)) (.type "BaseException") = some true
  ty : PySem.W.typeIn K (.ref (He.ga K x)) = some (.type "type")
def tRz (W : WX) (C : Addr) : TS := fun _ σ H => W (.ref C) none σ H
theorem ps_rz {X : Cx} {W : WX} {x m : Str} {j : Nat} {p p2 pos pos2 : Pos} (T : ExcT X.K X.mg x) (hc : X.calm = true) (tk : Takes X W) (hg : Gl X x) (hdb : (x == ("__debug__" : Str)) = false := by decide) :
    PS X (.Raise (some (.Call (.Name x p) [.Constant (.str m) j p2] [] pos)) none pos2) (tRz W (He.ga X.K x)) :=
  ps_raise hc tk (pmk_own PySem.F.excBase_ValueError T.xc T.gl T.kp (raises_own T.bs T.ty) hg hdb)
theorem rd_rz {W : WX} {C : Addr} {D : Ends} {σ : L2.St} {H : Hp} (h : W (.ref C) none σ H) : tRz W C D σ H := h
/-! ### isinstance of what a suite holds -/
def gIsE (K : PySem.W.Frag) (a : Addr) (cls : Value) (d : Option Addr) : List V → Hp → VK → Prop := fun xs H Q => ∃ (D : Addr) (c : V) (cv : Value) (b : Bool), cls = .ref D ∧ d = none ∧ ExcC K D ∧ xs = [.ref a, c] ∧ (∀ u, RelV c u → u = cv) ∧ PySem.W.kitOne K (.ref D) cv = some b ∧ Q (.bl b) H
theorem cr_isE {X : Cx} {a : Addr} {cls : Value} {d : Option Addr} {oe : Obj} {pn : List (Addr × Obj)} (hz : Zc cls d oe) (hf : ∃ vs, oe.data = .fields vs) : CallR (X.suite a ((a, oe) :: pn)) (.builtin "isinstance") (gIsE X.K a cls d) := by
  intro pins s σ H xs us Q I r h
  obtain ⟨D, c, cv, b, rfl, rfl, C, h⟩ := h
  exact call_isE (X := X) C hz hf pins s σ H xs us Q I r ⟨c, cv, b, h⟩
theorem rd_isE {K : PySem.W.Frag} {a D C : Addr} {H : Hp} {Q : VK} {b : Bool} (E : ExcC K D) (hk : PySem.W.kitOne K (.ref D) (.ref C) = some b) (k : Q (.bl b) H) : gIsE K a (.ref D) none [.ref a, .ref C] H Q :=
  ⟨D, _, _, b, rfl, rfl, E, rfl, fun _ r => r, hk, k⟩
theorem rd_isET {K : PySem.W.Frag} {a D : Addr} {H : Hp} {Q : VK} {b : Bool} {n : String} (E : ExcC K D) (hk : PySem.W.kitOne K (.ref D) (.type n) = some b) (k : Q (.bl b) H) : gIsE K a (.ref D) none [.ref a, .ty n] H Q :=
  ⟨D, _, _, b, rfl, rfl, E, rfl, fun _ r => r, hk, k⟩
end Tr
/-! Further rules. -/
namespace Tr
open PySem PySem.Spec PyProof.Rows L2
theorem pe_gint {X : Cx} {x : Str} {n : Int} {pos : Pos} (h : ∃ t, X.mg x = some (.int n t)) (hg : Gl X x) (hd : (x == ("__debug__" : Str)) = false := by decide) : PE X (.Name x pos) (tC (.int n)) := by
  obtain ⟨t, h⟩ := h
  exact pe_glob hg h ⟨t, rfl⟩ hd
theorem ited {p A B : Prop} [Decidable p] (h1 : p → A) (h2 : ¬ p → B) : if decide p = true then A else B := by
  by_cases h : p
  · rw [if_pos (decide_eq_true h)]
    exact h1 h
  · rw [if_neg (by rw [decide_eq_false h]; decide)]
    exact h2 h
theorem itedN {p A B : Prop} [Decidable p] (h1 : ¬ p → A) (h2 : p → B) : if (!decide p) = true then A else B := by
  by_cases h : p
  · rw [if_neg (by rw [decide_eq_true h]; decide)]
    exact h2 h
  · rw [if_pos (by rw [decide_eq_false h]; decide)]
    exact h1 h
theorem iteB {b : Bool} {A B : Prop} (h1 : b = true → A) (h2 : b = false → B) : if b = true then A else B := by
  cases b with
  | true => exact iteT (h1 rfl)
  | false => exact iteF (h2 rfl)
theorem iteBN {b : Bool} {A B : Prop} (h1 : b = false → A) (h2 : b = true → B) : if (!b) = true then A else B := by
  cases b with
  | true => exact iteF (h2 rfl)
  | false => exact iteT (h1 rfl)
/-- == of two lists of ints -/
theorem ints_data (ns : List Int) : ∀ {K : PySem.W.Frag} {H : Hp}, DpAll K H (ns.map V.int) (ns.map PyData.int) := by
  induction ns with
  | nil => intro K H; exact .nil
  | cons n ns ih => intro K H; exact .cons (.int n) ih
end Tr
namespace Tr
open PySem PySem.Spec PyProof.Rows L2
/-! ### slices and places -/
theorem cut_from {xs : List V} {k : Nat} : cutV xs (some (k : Int)) none = xs.drop k := by
  unfold cutV
  rw [HT.sIx_nat, HT.sIx_none]
  by_cases h : k ≤ xs.length
  · rw [Nat.min_eq_left h]
    exact List.take_of_length_le (by rw [List.length_drop]; omega)
  · have e : min k xs.length = xs.length := by omega
    rw [e, List.drop_length, List.drop_eq_nil_of_le (by omega)]
    simp
theorem cut_to {xs : List V} {k : Nat} : cutV xs none (some (k : Int)) = xs.take k := by
  unfold cutV
  rw [HT.sIx_nat, HT.sIx_none, List.drop_zero, Nat.sub_zero]
  by_cases h : k ≤ xs.length
  · rw [Nat.min_eq_left h]
  · have e : min k xs.length = xs.length := by omega
    rw [e, List.take_length, List.take_of_length_le (by omega)]
theorem cut_both {xs : List V} {j k : Nat} : cutV xs (some (j : Int)) (some (k : Int)) = (xs.drop j).take (k - j) := by
  unfold cutV
  rw [HT.sIx_nat, HT.sIx_nat]
  by_cases h : j ≤ xs.length
  · rw [Nat.min_eq_left h]
    by_cases h2 : k ≤ xs.length
    · rw [Nat.min_eq_left h2]
    · have e : min k xs.length = xs.length := by omega
      rw [e, List.take_of_length_le (by rw [List.length_drop]; omega), List.take_of_length_le (by rw [List.length_drop]; omega)]
  · have e : min j xs.length = xs.length := by omega
    rw [e, List.drop_length, List.drop_eq_nil_of_le (by omega)]
    simp
theorem at_int {ls : List Int} {k : Int} (h0 : 0 ≤ k) (hk : k < ls.length) : atI (ls.map V.int) k = some (.int (ls.getD k.toNat 0)) := by
  obtain ⟨j, rfl⟩ : ∃ j : Nat, k = j := ⟨k.toNat, by omega⟩
  have hj : j < ls.length := by omega
  refine atI_nat ?_
  rw [List.getElem?_map, List.getElem?_eq_getElem hj, Int.toNat_natCast, List.getD_eq_getElem?_getD, List.getElem?_eq_getElem hj]
  rfl
theorem mem_take {α : Type} {l : List α} {i : Nat} {x : α} (h : l[i]? = some x) : x ∈ l := List.mem_of_getElem? h
theorem take_sum {ns : List Int} {i : Nat} {n : Int} (h : ns[i]? = some n) : (ns.take (i + 1)).sum = (ns.take i).sum + n := by
  rw [List.take_add_one, h, List.sum_append]
  simp
/-! ### == of lists of ints -/
theorem eqvAll_ints : ∀ (ns ms : List Int), PyData.eqvAll (ns.map PyData.int) (ms.map PyData.int) = decide (ns = ms)
  | [], [] => by simp [PyData.eqvAll]
  | [], _ :: _ => by simp [PyData.eqvAll]
  | _ :: _, [] => by simp [PyData.eqvAll]
  | n :: ns, m :: ms => by
    simp only [List.map_cons, PyData.eqvAll, eqvAll_ints ns ms]
    by_cases h : n = m
    · subst h
      simp [PyData.eqv]
    · simp [PyData.eqv, h]
end Tr
namespace Tr
open PySem PySem.Spec PyProof.Rows L2
theorem depth_ints : ∀ ns : List Int, PyData.depthAll (ns.map PyData.int) = 0
  | [] => by simp only [List.map_nil, PyData.depthAll]
  | n :: ns => by simp only [List.map_cons, PyData.depthAll, PyData.depth, depth_ints ns, Nat.max_self]
theorem canLay_ints : ∀ ns : List Int, PyData.canLayAll0 (ns.map PyData.int) = true
  | [] => by simp only [List.map_nil, PyData.canLayAll0]
  | n :: ns => by simp only [List.map_cons, PyData.canLayAll0, PyData.canLay0, canLay_ints ns, Bool.and_self]
theorem shaped_ints (ns : List Int) : SeqAt.shaped (.list (ns.map PyData.int)) = true := by
  unfold SeqAt.shaped
  simp only [PyData.canLay0, canLay_ints, PyData.depth, depth_ints, Bool.true_and]
  decide
theorem eqv_ints (ns ms : List Int) : PyData.eqv (.list (ns.map PyData.int)) (.list (ms.map PyData.int)) = decide (ns = ms) := by
  rw [PyData.eqv, eqvAll_ints]
section
variable {K : PySem.W.Frag} {H : Hp} {Q : VK} {p q : Addr} {ns ms : List Int}
theorem dp_ints (h : SqL K H p (ns.map V.int)) : Dp K H (.ref p) (.list (ns.map PyData.int)) := .lst h (ints_data ns)
theorem rd_eqL (h1 : SqL K H p (ns.map V.int)) (h2 : SqL K H q (ms.map V.int)) (k : Q (.bl (decide (ns = ms))) H) : gEq K (.ref p) (.ref q) H Q :=
  rd_eqD (dp_ints h1) (dp_ints h2) (shaped_ints ns) (shaped_ints ms) (by rw [eqv_ints]; exact k)
theorem rd_neL (h1 : SqL K H p (ns.map V.int)) (h2 : SqL K H q (ms.map V.int)) (k : Q (.bl (!decide (ns = ms))) H) : gNe K (.ref p) (.ref q) H Q :=
  rd_neD (dp_ints h1) (dp_ints h2) (shaped_ints ns) (shaped_ints ms) (by rw [eqv_ints]; exact k)
end
/-! ### the promises of pure defs -/
/-- a new list -/
def newL (H : Hp) (Q : VK) (xs : List V) : Prop := ∀ p H', Led H H' [(p, .lst xs)] → Q (.ref p) H'
/-- nothing but a value -/
def newV (H : Hp) (Q : VK) (v : V) : Prop := ∀ H', Led H H' [] → Q v H'
/-- an error -/
def newE (K : PySem.W.Frag) (H : Hp) (E : XK) (x : Str) : Prop := ∀ H', Led H H' [] → E (.ref (He.ga K x)) none H'
end Tr
namespace Tr
open PySem PySem.Spec PyProof.Rows L2
/-! ### the rules with the written part named -/
section
variable {X : Cx} (K : PySem.W.Frag)
theorem kLen (h : X.K = K := by rfl) : CallR X (.builtin "len") (gLen K) := h ▸ cr_len
theorem kSum (hc : X.calm = true) (h : X.K = K := by rfl) : CallR X (.builtin "sum") (rSum K) := h ▸ cr_sum hc
theorem kMax (hc : X.calm = true) (h : X.K = K := by rfl) : CallR X (.builtin "max") (gMax K) := h ▸ cr_gMax hc
theorem kMin (hc : X.calm = true) (h : X.K = K := by rfl) : CallR X (.builtin "min") (gMin K) := h ▸ cr_gMin hc
theorem kSorted (h : X.K = K := by rfl) : CallR X (.builtin "sorted") (rSortedI K) := h ▸ cr_sortedI
theorem kIsi (h : X.K = K := by rfl) : CallR X (.builtin "isinstance") (rIsi K) := h ▸ call_isi
theorem kList (h : X.K = K := by rfl) : CallR X (.type "list") (gList K) := h ▸ cr_list
theorem kTuple (h : X.K = K := by rfl) : CallR X (.type "tuple") (gTuple K) := h ▸ cr_tuple
theorem kEq (hu : X.A.units + 64 < cLine) (h : X.K = K := by rfl) : OpR X (compareOp .Eq) (gEq K) := h ▸ op_gEq hu
theorem kNe (hu : X.A.units + 64 < cLine) (h : X.K = K := by rfl) : OpR X (compareOp .NotEq) (gNe K) := h ▸ op_gNe hu
theorem kIx (h : X.K = K := by rfl) : IxR X (rIx K) := h ▸ ix_seq
theorem kSl (h : X.K = K := by rfl) : SlR X (rSlL K) := h ▸ sl_list
theorem kCount (h : X.K = K := by rfl) : MtR X "list.count" (rCntI K) := h ▸ mt_lcount
theorem kIndex (h : X.K = K := by rfl) : MtR X "list.index" (rIndex K) := h ▸ mt_index
variable {tg : Expr} {l : Expr} {tl : TE}
theorem kiList (hl : PE X l tl) (h : X.K = K := by rfl) : PI X tg l (iList K tl) := h ▸ pi_list hl
theorem kiTup (hl : PE X l tl) (h : X.K = K := by rfl) : PI X tg l (iTup K tl) := h ▸ pi_tup hl
variable {o e : Expr} {es : List Expr} {to : TE} {t : TA} {name : Str} {apos cpos : Pos} {T id : String} {r : V → List V → Hp → VK → Prop}
theorem kbm0 (pa : PlainAttrs T) (slot : Slot T name id) (hty : typeOf (.builtin id) = pure (.type "method_descriptor")) (hm : MtR X id r) (ho : PE X o to)
    (h : X.K = K := by rfl) (hbase : attributeBase o name X.env (eval o X.env) = eval o X.env := by rfl) (hline : (apos.endLine == cpos.line) = true := by rfl) : PE X (.Call (.Attribute o name apos) [] [] cpos) (tBM0 K T r to) :=
  h ▸ pe_bm0 pa slot hty hm ho hbase hline
theorem kbm (pa : PlainAttrs T) (slot : Slot T name id) (hty : typeOf (.builtin id) = pure (.type "method_descriptor")) (hm : MtR X id r) (ho : PE X o to) (ha : PA X (e :: es) t)
    (h : X.K = K := by rfl) (hbase : attributeBase o name X.env (eval o X.env) = eval o X.env := by rfl)
    (hfew : ((backTo cpos (starEach (e :: es) X.env)).all (fun x => !x.1) && (backToKw cpos (keywordEach [] X.env)).all (fun x => x.1.isSome)
      && decide ((e :: es).length + ([] : List Keyword).length + (if ([] : List Keyword).isEmpty then 0 else 1) < 30)) = true := by rfl)
    (hline : (apos.endLine == cpos.line) = true := by rfl) (hs : starEach (e :: es) X.env = (false, eval e X.env) :: starEach es X.env := by rfl) (hplain : (backTo cpos (starEach es X.env)).any (·.1) = false := by rfl) :
    PE X (.Call (.Attribute o name apos) (e :: es) [] cpos) (tBM K T r to t) := h ▸ pe_bm pa slot hty hm ho ha hbase hfew hline hs hplain
end
end Tr
namespace Tr
theorem iteNT {A B : Prop} (h : B) : if (!true) = true then A else B := L2.iteF h
theorem iteNF {A B : Prop} (h : A) : if (!false) = true then A else B := L2.iteT h
end Tr
namespace Tr
open PySem PySem.Spec PyProof.Rows L2
/-! ### == of lists of truths -/
theorem bools_data (ns : List Bool) : ∀ {K : PySem.W.Frag} {H : Hp}, DpAll K H (ns.map V.bl) (ns.map PyData.bool) := by
  induction ns with
  | nil => intro K H; exact .nil
  | cons n ns ih => intro K H; exact .cons (.bl n) ih
theorem eqvAll_bools : ∀ (ns ms : List Bool), PyData.eqvAll (ns.map PyData.bool) (ms.map PyData.bool) = decide (ns = ms)
  | [], [] => by simp [PyData.eqvAll]
  | [], _ :: _ => by simp [PyData.eqvAll]
  | _ :: _, [] => by simp [PyData.eqvAll]
  | n :: ns, m :: ms => by
    simp only [List.map_cons, PyData.eqvAll, eqvAll_bools ns ms]
    by_cases h : n = m
    · subst h
      simp [PyData.eqv]
    · simp [PyData.eqv, h]
theorem depth_bools : ∀ ns : List Bool, PyData.depthAll (ns.map PyData.bool) = 0
  | [] => by simp only [List.map_nil, PyData.depthAll]
  | n :: ns => by simp only [List.map_cons, PyData.depthAll, PyData.depth, depth_bools ns, Nat.max_self]
theorem canLay_bools : ∀ ns : List Bool, PyData.canLayAll0 (ns.map PyData.bool) = true
  | [] => by simp only [List.map_nil, PyData.canLayAll0]
  | n :: ns => by simp only [List.map_cons, PyData.canLayAll0, PyData.canLay0, canLay_bools ns, Bool.and_self]
theorem shaped_bools (ns : List Bool) : SeqAt.shaped (.list (ns.map PyData.bool)) = true := by
  unfold SeqAt.shaped
  simp only [PyData.canLay0, canLay_bools, PyData.depth, depth_bools, Bool.true_and]
  decide
section
variable {K : PySem.W.Frag} {H : Hp} {Q : VK} {p q : Addr}
theorem rd_eqBs (ns ms : List Bool) (h1 : SqL K H p (ns.map V.bl)) (h2 : SqL K H q (ms.map V.bl)) (k : Q (.bl (decide (ns = ms))) H) : gEq K (.ref p) (.ref q) H Q :=
  rd_eqD (.lst h1 (bools_data ns)) (.lst h2 (bools_data ms)) (shaped_bools ns) (shaped_bools ms) (by
    rw [PyData.eqv, eqvAll_bools]
    exact k)
theorem rd_neBs (ns ms : List Bool) (h1 : SqL K H p (ns.map V.bl)) (h2 : SqL K H q (ms.map V.bl)) (k : Q (.bl (!decide (ns = ms))) H) : gNe K (.ref p) (.ref q) H Q :=
  rd_neD (.lst h1 (bools_data ns)) (.lst h2 (bools_data ms)) (shaped_bools ns) (shaped_bools ms) (by
    rw [PyData.eqv, eqvAll_bools]
    exact k)
end
theorem Led.fresh0 {H0 H : Hp} (L : Led H0 H []) : Led H0 H [] := L
/-- only what stands in front is kept -/
theorem Led.only {H0 H : Hp} {l : List (Addr × HO)} {x : Addr × HO} (L : Led H0 H (x :: l)) : Led H0 H [x] := L.sub (List.Sublist.cons_cons _ (List.nil_sublist _))
theorem Led.none {H0 H : Hp} {l : List (Addr × HO)} (L : Led H0 H l) : Led H0 H [] := L.sub (List.nil_sublist _)
end Tr
namespace Tr
open PySem PySem.Spec PyProof.Rows L2
section
variable {K : PySem.W.Frag} {H : Hp} {Q : VK} {p q : Addr} {ns : List Int}
theorem rd_eqLs (h1 : SqL K H p (ns.map V.int)) (h2 : SqL K H q (ns.map V.int)) (k : Q (.bl true) H) : gEq K (.ref p) (.ref q) H Q := rd_eqL h1 h2 (by
  rw [decide_eq_true rfl]
  exact k)
theorem rd_neLs (h1 : SqL K H p (ns.map V.int)) (h2 : SqL K H q (ns.map V.int)) (k : Q (.bl false) H) : gNe K (.ref p) (.ref q) H Q := rd_neL h1 h2 (by
  rw [decide_eq_true rfl]
  exact k)
end
/-- a plain «if c: x = v» -/
theorem if_asg {c : Prop} [Decidable c] {v w : V} {i : Nat} {D : Ends} {σ : L2.St} {H : Hp} (hw : σ[i]? = some (some w)) (h : D.nx (σ.set i (some (if c then v else w))) H) : if decide c = true then tAsg (tC v) (gName i) D σ H else tNext D σ H := by
  refine ited (fun hc => ?_) (fun hc => ?_)
  · rw [if_pos hc] at h
    exact h
  · rw [if_neg hc] at h
    have e : σ.set i (some w) = σ := by
      apply List.ext_getElem?
      intro j
      rw [List.getElem?_set]
      by_cases hj : i = j
      · subst hj
        rw [if_pos rfl, if_pos (List.getElem?_eq_some_iff.mp hw).1, hw]
      · rw [if_neg hj]
    rw [e] at h
    exact h
end Tr
namespace Tr
open PySem PySem.Spec PyProof.Rows L2
/-- an if whose ways come together: N is what stands behind it -/
theorem if_two {c : Prop} [Decidable c] {t u : TS} {D : Ends} {σ : L2.St} {H : Hp} (N : L2.St → Hp → Prop) (h0 : ∀ σ H, N σ H → D.nx σ H)
    (h1 : ∀ nx' : L2.St → Hp → Prop, (∀ σ H, N σ H → nx' σ H) → c → t { D with nx := nx' } σ H) (h2 : ∀ nx' : L2.St → Hp → Prop, (∀ σ H, N σ H → nx' σ H) → ¬ c → u { D with nx := nx' } σ H) : if decide c = true then t D σ H else u D σ H :=
  ited (fun c => h1 D.nx h0 c) (fun c => h2 D.nx h0 c)
/-- a statement behind which N stands -/
theorem st_cut {t : TS} {D : Ends} {σ : L2.St} {H : Hp} (N : L2.St → Hp → Prop) (h0 : ∀ σ H, N σ H → D.nx σ H) (h1 : ∀ nx' : L2.St → Hp → Prop, (∀ σ H, N σ H → nx' σ H) → t { D with nx := nx' } σ H) : t D σ H := h1 D.nx h0
/-! ### index, backwards -/
section
variable {H0 H : Hp} {l : List (Addr × HO)} {Q : VK} {K : PySem.W.Frag} {a : Addr} {xs : List V} {σ : L2.St} {te : TE}
theorem idx_first {n : Int} : ∀ {ns : List Int}, n ∈ ns → ∃ j, j < ns.length ∧ ns[j]? = some n ∧ ∀ m z, m < j → ns[m]? = some z → z ≠ n
  | x :: r, h => by
    by_cases e : x = n
    · exact ⟨0, by simp, by simp [e], fun m z hm => absurd hm (Nat.not_lt_zero _)⟩
    · have h' : n ∈ r := by
        rcases List.mem_cons.mp h with h | h
        · exact absurd h.symm e
        · exact h
      obtain ⟨j, h1, h2, h3⟩ := idx_first h'
      refine ⟨j + 1, by simpa using h1, by simpa using h2, fun m z hm hz => ?_⟩
      cases m with
      | zero =>
        have : x = z := by simpa using hz
        subst this
        exact e
      | succ m => exact h3 m z (by omega) (by simpa using hz)
theorem rd_index {ns : List Int} {n : Int} (hs : SqL K H a (ns.map V.int)) (hn : n ∈ ns) (k : ∀ j : Nat, j < ns.length → ns[j]? = some n → (∀ m z, m < j → ns[m]? = some z → z ≠ n) → Q (.int j) H) : rIndex K (.ref a) [.int n] H Q := by
  obtain ⟨j, h1, h2, h3⟩ := idx_first hn
  refine ⟨a, ns.map V.int, .int n, j, .int n, rfl, rfl, hs, rfl, ?_, ?_, ?_, ?_, k j h1 h2 h3⟩
  · rw [List.all_map]
    exact List.all_eq_true.mpr fun _ _ => rfl
  · rw [List.getElem?_map, h2]
    rfl
  · show (n == n) = true
    simp
  · intro m z' hm hz
    rw [List.getElem?_map] at hz
    cases e : ns[m]? with
    | none => rw [e] at hz; cases hz
    | some z =>
      rw [e] at hz
      cases hz
      have := h3 m z hm e
      show (z == n) = false
      simpa using this
def revL1 (K : PySem.W.Frag) (x : V) (H : Hp) (Q : VK) : Prop := ∃ a xs, x = .ref a ∧ SqL K H a xs ∧ ∀ p, H p = none → Q (.ref p) (upd H p (.lst xs.reverse))
theorem rd_revL (h : te σ H fun x H1 => revL1 K x H1 Q) : tRevL K te σ H Q := h
theorem rd_revL1 (L : Led H0 H l) (hs : SqL K H a xs) (k : ∀ p H', Led H0 H' ((p, .lst xs.reverse) :: l) → Ts H H' → Q (.ref p) H') : revL1 K (.ref a) H Q := ⟨a, xs, rfl, hs, fun p hp => k p _ (L.push hp) (Ts.of (Same.push hp))⟩
end
end Tr
namespace Tr
open PySem PySem.Spec PyProof.Rows L2
section
variable {H0 H : Hp} {l : List (Addr × HO)} {Q : VK} {K : PySem.W.Frag} {a : Addr} {σ : L2.St} {te : TE} {g : TG} {tt : TT} {vs : List Nat}
/-- a list of what f tells of each item -/
def mapI (H0 H : Hp) (l : List (Addr × HO)) (ns : List Int) (f : Int → V) (D : Addr) (i : Nat) (H2 : Hp) : Prop := Led H0 H2 ((D, .lst ((ns.take i).map f)) :: l) ∧ Ts H H2
theorem rd_mapIEnd {ns : List Int} {f : Int → V} {i : Nat} {n : Int} {D : Addr} {H3 : Hp} (l' : List (Addr × HO)) (L : Led H0 H3 (l' ++ (D, .lst ((ns.take i).map f)) :: l)) (t : Ts H H3) (hn : ns[i]? = some n) (hi : i < 1000000) {y : V} (e : y = f n) : put1 D (mapI H0 H l ns f D (i + 1)) y H3 := by
  subst e
  refine rd_put1 L.drop1 0 rfl (by rw [List.length_map, List.length_take]; exact szl (m := i) (Nat.min_le_left _ _)) fun H5 L5 t5 => ⟨L5.to ?_, t.trans t5⟩
  rw [List.take_add_one, hn, List.map_append]
  rfl
theorem lc_mapI {ns : List Int} (f : Int → V) (L : Led H0 H l) (hS : ∀ H1, Ts H H1 → Same H0 H1 → (∀ l1, Led H0 H1 (l1 ++ l) → SqL K H1 a (ns.map V.int)))
    (hs : ∀ i n D H1, ns[i]? = some n → Led H0 H1 ((D, .lst ((ns.take i).map f)) :: l) → Ts H H1 → g (.int n) (wipe σ vs) H1 fun σ2 H2 => wipe σ2 vs = wipe σ vs ∧ tt σ2 H2 fun b H3 => if b = true then te σ2 H3 (put1 D (mapI H0 H l ns f D (i + 1))) else mapI H0 H l ns f D (i + 1) H3)
    (hd : ∀ D H1, Led H0 H1 ((D, .lst (ns.map f)) :: l) → Ts H H1 → Q (.ref D) H1) : lc (Itl K a) g tt te vs σ H Q := by
  refine lc_lst (xs := ns.map V.int) L fun D H1 L1 t1 => ⟨mapI H0 H l ns f D, ⟨L1, t1⟩, fun i H2 _ ⟨L2, t2⟩ => hS H2 t2 L2.same [_] L2, fun i x H2 hx ⟨L2, t2⟩ => ?_, fun H2 ⟨L2, t2⟩ => hd D H2 (L2.to (by rw [List.length_map, List.take_length])) t2⟩
  rw [List.getElem?_map] at hx
  cases e : ns[i]? with
  | none => rw [e] at hx; cases hx
  | some n =>
    rw [e] at hx
    cases hx
    exact hs i n D H2 e L2 t2
end
end Tr
/-! What the law's helpers read off the script. -/
namespace Tr
def cell (ns : List Int) (k : Nat) : Int := ns.getD k 0
def rowCell (way c : Int) : Int :=
  if way = 0 then 1 - c % 3 else if way = 1 then [1, 1, 1, 0, -1, -2].getD (c % 6).toNat 0
  else if way = 2 then [1, 1, 1, 1, 1, 1 - c / 8 % 62, 0, 1].getD (c % 8).toNat 0 else 1 - c % 62
theorem rowCell_le (way c : Int) : rowCell way c ≤ 1 ∧ -60 ≤ rowCell way c := by
  unfold rowCell
  split
  · omega
  · split
    · have h : (c % 6).toNat < 6 := by omega
      generalize (c % 6).toNat = j at h
      match j, h with
      | 0, _ => decide
      | 1, _ => decide
      | 2, _ => decide
      | 3, _ => decide
      | 4, _ => decide
      | 5, _ => decide
    · split
      · have h : (c % 8).toNat < 8 := by omega
        generalize (c % 8).toNat = j at h
        have e : -60 ≤ 1 - c / 8 % 62 ∧ 1 - c / 8 % 62 ≤ 1 := by omega
        generalize 1 - c / 8 % 62 = z at e
        match j, h with
        | 0, _ => exact ⟨by show (1 : Int) ≤ 1; decide, by show (-60 : Int) ≤ 1; decide⟩
        | 1, _ => exact ⟨by show (1 : Int) ≤ 1; decide, by show (-60 : Int) ≤ 1; decide⟩
        | 2, _ => exact ⟨by show (1 : Int) ≤ 1; decide, by show (-60 : Int) ≤ 1; decide⟩
        | 3, _ => exact ⟨by show (1 : Int) ≤ 1; decide, by show (-60 : Int) ≤ 1; decide⟩
        | 4, _ => exact ⟨by show (1 : Int) ≤ 1; decide, by show (-60 : Int) ≤ 1; decide⟩
        | 5, _ => exact ⟨e.2, e.1⟩
        | 6, _ => exact ⟨by show (0 : Int) ≤ 1; decide, by show (-60 : Int) ≤ 0; decide⟩
        | 7, _ => exact ⟨by show (1 : Int) ≤ 1; decide, by show (-60 : Int) ≤ 1; decide⟩
      · omega
def rowBy (ns : List Int) (first count : Nat) (way : Int) : List Int := (List.range count).map fun k => rowCell way (cell ns (first + k))
theorem rowBy_len (ns : List Int) (first count : Nat) (way : Int) : (rowBy ns first count way).length = count := by
  unfold rowBy
  rw [List.length_map, List.length_range]
theorem rowBy_mem {ns : List Int} {first count : Nat} {way n : Int} (h : n ∈ rowBy ns first count way) : n ≤ 1 ∧ -60 ≤ n := by
  unfold rowBy at h
  obtain ⟨k, _, rfl⟩ := List.mem_map.mp h
  exact rowCell_le way _
def nodesOf (ns : List Int) : Nat := if cell ns 0 / 12 % 4 = 1 then 1 + (cell ns 0 / 48 % 60).toNat else 1 + (cell ns 0 % 12).toNat
theorem nodesOf_le (ns : List Int) : 1 ≤ nodesOf ns ∧ nodesOf ns ≤ 60 := by
  unfold nodesOf
  split <;> omega
def isRow (ns : List Int) : Prop := 1 ≤ ns.length ∧ ns.length ≤ 60 ∧ ∀ n ∈ ns, n ≤ 1 ∧ -60 ≤ n
instance (ns : List Int) : Decidable (isRow ns) := by
  unfold isRow
  infer_instance
theorem rowBy_row {ns : List Int} {first count : Nat} {way : Int} (h : 1 ≤ count ∧ count ≤ 60) : isRow (rowBy ns first count way) := by
  refine ⟨?_, ?_, fun n hn => rowBy_mem hn⟩
  · rw [rowBy_len]
    exact h.1
  · rw [rowBy_len]
    exact h.2
/-- the sums of the first, the first two .. -/
def sums (ns : List Int) : List Int := (List.range ns.length).map fun k => (ns.take (k + 1)).sum
theorem sums_len (ns : List Int) : (sums ns).length = ns.length := by
  unfold sums
  rw [List.length_map, List.length_range]
/-- turned by k -/
def turn (ns : List Int) (k : Nat) : List Int := ns.drop k ++ ns.take k
theorem turn_len {ns : List Int} {k : Nat} : (turn ns k).length = ns.length := by
  unfold turn
  rw [List.length_append, List.length_drop, List.length_take]
  omega
theorem turn_mem {ns : List Int} {k : Nat} {n : Int} (h : n ∈ turn ns k) : n ∈ ns := by
  unfold turn at h
  rcases List.mem_append.mp h with h | h
  · exact List.mem_of_mem_drop h
  · exact List.mem_of_mem_take h
end Tr
namespace Tr
/-- all beginnings are above nought -/
def goodB (ns : List Int) : Bool := (sums ns).all fun t => decide (1 ≤ t)
theorem goodB_iff {ns : List Int} : goodB ns = true ↔ ∀ k, k < ns.length → 1 ≤ (ns.take (k + 1)).sum := by
  unfold goodB sums
  rw [List.all_eq_true]
  constructor
  · intro h k hk
    exact of_decide_eq_true (h _ (List.mem_map.mpr ⟨k, List.mem_range.mpr hk, rfl⟩))
  · intro h t ht
    obtain ⟨k, hk, rfl⟩ := List.mem_map.mp ht
    exact decide_eq_true (h k (List.mem_range.mp hk))
theorem goodB_no {ns : List Int} {k : Nat} (hk : k < ns.length) (h : (ns.take (k + 1)).sum < 1) : goodB ns = false := by
  cases e : goodB ns with
  | false => rfl
  | true =>
    have := goodB_iff.mp e k hk
    omega
theorem sums_at {ns : List Int} {i : Nat} {t : Int} (h : (sums ns)[i]? = some t) : i < ns.length ∧ t = (ns.take (i + 1)).sum := by
  have hi : i < ns.length := by
    have := (List.getElem?_eq_some_iff.mp h).1
    rw [sums_len] at this
    exact this
  refine ⟨hi, ?_⟩
  unfold sums at h
  rw [List.getElem?_map, List.getElem?_range hi] at h
  exact (Option.some.inj h).symm
end Tr
namespace Tr
/-- the numbers by which a row is turned into a good one -/
def startsOf (ns : List Int) : List Nat := (List.range ns.length).filter fun k => goodB (turn ns k)
theorem turn_row {ns : List Int} {j : Nat} (h : isRow ns) : isRow (turn ns j) := by
  refine ⟨?_, ?_, fun n hn => h.2.2 n (turn_mem hn)⟩
  · rw [turn_len]
    exact h.1
  · rw [turn_len]
    exact h.2.1
end Tr
namespace Tr
open PySem PySem.Spec PyProof.Rows L2
theorem turn_cut {ns : List Int} {j : Nat} : cutV (ns.map V.int) (some (j : Int)) none ++ cutV (ns.map V.int) none (some (j : Int)) = (turn ns j).map V.int := by
  rw [cut_from, cut_to]
  unfold turn
  rw [List.map_append, List.map_drop, List.map_take]
end Tr
/-! The starts of a row: as many as its sum. -/
namespace Tr
/-- the least of f at k, k + 1, .. k + m -/
def mn (f : Nat → Int) (k : Nat) : Nat → Int
  | 0 => f k
  | m + 1 => min (mn f k m) (f (k + (m + 1)))
theorem mn_le (f : Nat → Int) (k : Nat) : ∀ m, mn f k m ≤ f k
  | 0 => Int.le_refl _
  | m + 1 => Int.le_trans (Int.min_le_left _ _) (mn_le f k m)
theorem mn_cons (f : Nat → Int) (k : Nat) : ∀ m, mn f k (m + 1) = min (f k) (mn f (k + 1) m)
  | 0 => rfl
  | m + 1 => by
    have ih := mn_cons f k m
    have e : k + 1 + (m + 1) = k + (m + 1 + 1) := by omega
    show min (mn f k (m + 1)) (f (k + (m + 1 + 1))) = min (f k) (min (mn f (k + 1) m) (f (k + 1 + (m + 1))))
    rw [ih, e]
    omega
theorem mn_lt {f : Nat → Int} {k : Nat} {v : Int} : ∀ {m}, v < mn f k m ↔ ∀ j, j ≤ m → v < f (k + j)
  | 0 => by
    constructor
    · intro h j hj
      have e : j = 0 := by omega
      subst e
      exact h
    · intro h
      exact h 0 (Nat.le_refl _)
  | m + 1 => by
    have ih := mn_lt (f := f) (k := k) (v := v) (m := m)
    have e : mn f k (m + 1) = min (mn f k m) (f (k + (m + 1))) := rfl
    constructor
    · intro h j hj
      rw [e] at h
      by_cases hm : j ≤ m
      · exact ih.mp (by omega) j hm
      · have e2 : j = m + 1 := by omega
        subst e2
        omega
    · intro h
      rw [e]
      have h1 := ih.mpr fun j hj => h j (by omega)
      have h2 := h (m + 1) (Nat.le_refl _)
      omega
theorem mn_shift {f : Nat → Int} {k n : Nat} {s : Int} : ∀ m, (∀ j, j ≤ m → f (k + n + j) = f (k + j) + s) → mn f (k + n) m = mn f k m + s
  | 0, h => h 0 (Nat.le_refl _)
  | m + 1, h => by
    have ih := mn_shift m fun j hj => h j (by omega)
    have e := h (m + 1) (Nat.le_refl _)
    show min (mn f (k + n) m) (f (k + n + (m + 1))) = min (mn f k m) (f (k + (m + 1))) + s
    rw [ih, e]
    omega
theorem mn_congr {f g : Nat → Int} {k : Nat} : ∀ m, (∀ j, j ≤ m → f (k + j) = g (k + j)) → mn f k m = mn g k m
  | 0, h => h 0 (Nat.le_refl _)
  | m + 1, h => by
    show min _ _ = min _ _
    rw [mn_congr m fun j hj => h j (by omega), h (m + 1) (Nat.le_refl _)]
/-! ### the beginnings of the row written twice -/
def pre2 (ns : List Int) (i : Nat) : Int := ((ns ++ ns).take i).sum
theorem pre2_succ {ns : List Int} {i : Nat} {x : Int} (h : (ns ++ ns)[i]? = some x) : pre2 ns (i + 1) = pre2 ns i + x := by
  unfold pre2
  rw [List.take_add_one, h, List.sum_append]
  simp
theorem pre2_period {ns : List Int} {i : Nat} (h : i ≤ ns.length) : pre2 ns (i + ns.length) = pre2 ns i + ns.sum := by
  unfold pre2
  rw [List.take_append, List.take_append, List.take_of_length_le (by omega : ns.length ≤ i + ns.length), List.sum_append, List.sum_append]
  have e1 : i + ns.length - ns.length = i := by omega
  have e2 : i - ns.length = 0 := by omega
  rw [e1, e2]
  simp
  omega
theorem turn_pre2 {ns : List Int} {k j : Nat} (hk : k ≤ ns.length) (hj : j ≤ ns.length) : ((turn ns k).take j).sum = pre2 ns (k + j) - pre2 ns k := by
  have e : (ns ++ ns).take (k + j) = (ns ++ ns).take k ++ ((ns ++ ns).drop k).take j := List.take_add
  have e2 : ((ns ++ ns).drop k).take j = (turn ns k).take j := by
    unfold turn
    rw [List.drop_append_of_le_length hk]
    rw [List.take_append, List.take_append, List.take_take]
    have e3 : min (j - (ns.drop k).length) k = j - (ns.drop k).length := by
      rw [List.length_drop]
      omega
    rw [e3]
  unfold pre2
  rw [e, List.sum_append, e2]
  omega
theorem good_pre2 {ns : List Int} {k : Nat} (hk : k < ns.length) : goodB (turn ns k) = decide (pre2 ns k < mn (pre2 ns) (k + 1) (ns.length - 1)) := by
  have e : goodB (turn ns k) = true ↔ pre2 ns k < mn (pre2 ns) (k + 1) (ns.length - 1) := by
    rw [goodB_iff, mn_lt, turn_len]
    constructor
    · intro h j hj
      have := h j (by omega)
      rw [turn_pre2 (by omega) (by omega)] at this
      have e : k + (j + 1) = k + 1 + j := by omega
      rw [e] at this
      omega
    · intro h j hj
      rw [turn_pre2 (by omega) (by omega)]
      have := h j (by omega)
      have e : k + (j + 1) = k + 1 + j := by omega
      rw [e]
      omega
  by_cases h : pre2 ns k < mn (pre2 ns) (k + 1) (ns.length - 1)
  · rw [decide_eq_true h]
    exact e.mpr h
  · rw [decide_eq_false h]
    cases g : goodB (turn ns k) with
    | false => rfl
    | true => exact absurd (e.mp g) h
/-- the step: behind a start the least of what follows is one more -/
theorem mn_step {ns : List Int} {k : Nat} (hk : k < ns.length) (hs : 0 < ns.sum) (h1 : ∀ x ∈ ns, x ≤ 1) :
    mn (pre2 ns) (k + 1) (ns.length - 1) = mn (pre2 ns) k (ns.length - 1) + (if goodB (turn ns k) = true then 1 else 0) := by
  have hn : 1 ≤ ns.length := by omega
  have e1 : ns.length = ns.length - 1 + 1 := by omega
  have c1 : mn (pre2 ns) k (ns.length - 1 + 1) = min (pre2 ns k) (mn (pre2 ns) (k + 1) (ns.length - 1)) := mn_cons _ _ _
  have c2 : mn (pre2 ns) k (ns.length - 1 + 1) = min (mn (pre2 ns) k (ns.length - 1)) (pre2 ns (k + (ns.length - 1 + 1))) := rfl
  have p1 := pre2_period (ns := ns) (i := k) (by omega)
  rw [← e1, p1] at c2
  rw [← e1] at c1
  have l1 := mn_le (pre2 ns) k (ns.length - 1)
  have l2 := mn_le (pre2 ns) (k + 1) (ns.length - 1)
  have hx : k < (ns ++ ns).length := by
    rw [List.length_append]
    omega
  have st := pre2_succ (ns := ns) (List.getElem?_eq_getElem hx)
  have hm : (ns ++ ns)[k] ≤ 1 := by
    have hmem := List.getElem_mem hx
    rcases List.mem_append.mp hmem with h | h <;> exact h1 _ h
  rw [good_pre2 hk]
  by_cases c : pre2 ns k < mn (pre2 ns) (k + 1) (ns.length - 1)
  · rw [if_pos (decide_eq_true c)]
    omega
  · rw [if_neg (by rw [decide_eq_false c]; decide)]
    omega
theorem count_starts {ns : List Int} (hs : 0 < ns.sum) (h1 : ∀ x ∈ ns, x ≤ 1) : ∀ i, i ≤ ns.length → (((List.range i).filter fun k => goodB (turn ns k)).length : Int) = mn (pre2 ns) i (ns.length - 1) - mn (pre2 ns) 0 (ns.length - 1)
  | 0, _ => by simp
  | i + 1, hi => by
    have ih := count_starts hs h1 i (by omega)
    have st := mn_step (ns := ns) (k := i) (by omega) hs h1
    rw [List.range_succ, List.filter_append, List.length_append, st]
    by_cases g : goodB (turn ns i) = true
    · simp [g]
      omega
    · simp [g]
      omega
theorem starts_many {ns : List Int} (h1 : ∀ x ∈ ns, x ≤ 1) : ((startsOf ns).length : Int) = max 0 ns.sum := by
  by_cases hs : 0 < ns.sum
  · have c := count_starts hs h1 ns.length (Nat.le_refl _)
    have e : mn (pre2 ns) (0 + ns.length) (ns.length - 1) = mn (pre2 ns) 0 (ns.length - 1) + ns.sum := mn_shift _ fun j hj => by
      have e2 : 0 + ns.length + j = j + ns.length := by omega
      have e3 : 0 + j = j := by omega
      rw [e2, e3]
      exact pre2_period (by omega)
    rw [Nat.zero_add] at e
    unfold startsOf
    rw [c, e]
    omega
  · have e : startsOf ns = [] := by
      unfold startsOf
      rw [List.filter_eq_nil_iff]
      intro k hk hg
      have hk' := List.mem_range.mp hk
      have g := goodB_iff.mp hg (ns.length - 1) (by rw [turn_len]; omega)
      have e2 : ns.length - 1 + 1 = ns.length := by omega
      rw [e2, turn_pre2 (by omega) (Nat.le_refl _), pre2_period (by omega)] at g
      omega
    rw [e]
    show (0 : Int) = _
    omega
/-! ### turned by k, and by j -/
theorem turn_at {ns : List Int} {k i : Nat} (hk : k ≤ ns.length) (hi : i < ns.length) : (turn ns k)[i]? = ns[if i + k < ns.length then i + k else i + k - ns.length]? := by
  unfold turn
  rw [List.getElem?_append, List.length_drop]
  by_cases h : i + k < ns.length
  · rw [if_pos h, if_pos (by omega), List.getElem?_drop, Nat.add_comm]
  · rw [if_neg h, if_neg (by omega), List.getElem?_take, if_pos (by omega)]
    congr 1
    omega
theorem turn_turn {ns : List Int} {k j : Nat} (hk : k < ns.length) (hj : j < ns.length) : turn (turn ns k) j = turn ns (if j + k < ns.length then j + k else j + k - ns.length) := by
  apply List.ext_getElem?
  intro i
  by_cases hi : i < ns.length
  · rw [turn_at (by rw [turn_len]; omega) (by rw [turn_len]; exact hi), turn_len, turn_at (by omega) (by split <;> omega), turn_at (by split <;> omega) hi]
    congr 1
    split <;> split <;> split <;> (try split) <;> omega
  · rw [List.getElem?_eq_none (by rw [turn_len, turn_len]; omega), List.getElem?_eq_none (by rw [turn_len]; omega)]
theorem mem_starts {ns : List Int} {k : Nat} : k ∈ startsOf ns ↔ k < ns.length ∧ goodB (turn ns k) = true := by
  unfold startsOf
  rw [List.mem_filter, List.mem_range]
theorem starts_pairwise (ns : List Int) : (startsOf ns).Pairwise (· < ·) := List.pairwise_lt_range.filter _
/-- the starts of the turned row -/
theorem starts_turn {ns : List Int} {k : Nat} (hk : k < ns.length) {ms : List Int} (hp : ms.Perm ((startsOf ns).map fun one : Nat => ((one : Int) - k) % ns.length)) (hs : ms.Pairwise (· ≤ ·)) : (startsOf (turn ns k)).map (fun one : Nat => (one : Int)) = ms := by
  have n1 : ((startsOf (turn ns k)).map (fun one : Nat => (one : Int))).Pairwise (· < ·) := by
    rw [List.pairwise_map]
    exact (starts_pairwise _).imp fun h => by omega
  have n2 : ((startsOf ns).map fun one : Nat => ((one : Int) - k) % ns.length).Nodup := by
    unfold List.Nodup
    rw [List.pairwise_map]
    have := starts_pairwise ns
    refine List.Pairwise.imp_of_mem ?_ this
    intro a b ha hb hab e
    have ha' := (mem_starts.mp ha).1
    have hb' := (mem_starts.mp hb).1
    have ea : ((a : Int) - k) % ns.length = if k ≤ a then (a : Int) - k else (a : Int) - k + ns.length := by
      split
      · exact Int.emod_eq_of_lt (by omega) (by omega)
      · rw [← Int.add_emod_right, Int.emod_eq_of_lt (by omega) (by omega)]
    have eb : ((b : Int) - k) % ns.length = if k ≤ b then (b : Int) - k else (b : Int) - k + ns.length := by
      split
      · exact Int.emod_eq_of_lt (by omega) (by omega)
      · rw [← Int.add_emod_right, Int.emod_eq_of_lt (by omega) (by omega)]
    rw [ea, eb] at e
    split at e <;> split at e <;> omega
  have pm : ((startsOf (turn ns k)).map (fun one : Nat => (one : Int))).Perm ms := by
    refine List.Perm.trans ?_ hp.symm
    rw [List.perm_ext_iff_of_nodup (n1.imp fun h => by omega) n2]
    intro z
    rw [List.mem_map, List.mem_map]
    constructor
    · rintro ⟨j, hj, rfl⟩
      obtain ⟨h1, h2⟩ := mem_starts.mp hj
      rw [turn_len] at h1
      rw [turn_turn hk h1] at h2
      refine ⟨if j + k < ns.length then j + k else j + k - ns.length, mem_starts.mpr ⟨by split <;> omega, h2⟩, ?_⟩
      split
      · rw [Int.emod_eq_of_lt (by omega) (by omega)]
        omega
      · rw [← Int.add_emod_right, Int.emod_eq_of_lt (by omega) (by omega)]
        omega
    · rintro ⟨a, ha, rfl⟩
      obtain ⟨h1, h2⟩ := mem_starts.mp ha
      refine ⟨if k ≤ a then a - k else a + ns.length - k, mem_starts.mpr ⟨by rw [turn_len]; split <;> omega, ?_⟩, ?_⟩
      · rw [turn_turn hk (by split <;> omega)]
        have e : (if (if k ≤ a then a - k else a + ns.length - k) + k < ns.length then (if k ≤ a then a - k else a + ns.length - k) + k else (if k ≤ a then a - k else a + ns.length - k) + k - ns.length) = a := by
          split <;> split <;> omega
        rw [e]
        exact h2
      · split
        · rw [Int.emod_eq_of_lt (by omega) (by omega)]
          omega
        · rw [← Int.add_emod_right, Int.emod_eq_of_lt (by omega) (by omega)]
          omega
  exact pm.eq_of_pairwise (le := (· ≤ ·)) (fun a b _ _ h1 h2 => by omega) (n1.imp fun h => by omega) hs
end Tr
namespace Tr
open PySem PySem.Spec PyProof.Rows L2
/-! the text of the row, by places -/
def topS (i : Nat) : Stmt := PySem.Challenge.pw_turnrow_k03_whole_just_so_many_starts.main.body.getD i (.Pass ⟨0, 0, 0, 0⟩)
abbrev s_see_row : Stmt := topS 6
abbrev n_see_row : List Str := ["row", "number"]
theorem sc_see_row : FnScope n_see_row ["row"] (defScope s_see_row) := ⟨rfl, rfl, rfl, by decide +kernel, rfl, by decide +kernel, by decide +kernel⟩
abbrev s_turned : Stmt := topS 7
abbrev n_turned : List Str := ["row", "k"]
theorem sc_turned : FnScope n_turned ["row", "k"] (defScope s_turned) := ⟨rfl, rfl, rfl, by decide +kernel, rfl, by decide +kernel, by decide +kernel⟩
abbrev s_sums_of : Stmt := topS 8
abbrev n_sums_of : List Str := ["row", "found", "total", "number"]
theorem sc_sums_of : FnScope n_sums_of ["row"] (defScope s_sums_of) := ⟨rfl, rfl, rfl, by decide +kernel, rfl, by decide +kernel, by decide +kernel⟩
abbrev s_is_good : Stmt := topS 9
abbrev n_is_good : List Str := ["row", "total"]
theorem sc_is_good : FnScope n_is_good ["row"] (defScope s_is_good) := ⟨rfl, rfl, rfl, by decide +kernel, rfl, by decide +kernel, by decide +kernel⟩
abbrev s_starts : Stmt := topS 10
abbrev n_starts : List Str := ["row", "k"]
theorem sc_starts : FnScope n_starts ["row"] (defScope s_starts) := ⟨rfl, rfl, rfl, by decide +kernel, rfl, by decide +kernel, by decide +kernel⟩
abbrev s_law_cell_at : Stmt := topS 12
abbrev n_law_cell_at : List Str := ["script", "k"]
theorem sc_law_cell_at : FnScope n_law_cell_at ["script", "k"] (defScope s_law_cell_at) := ⟨rfl, rfl, rfl, by decide +kernel, rfl, by decide +kernel, by decide +kernel⟩
abbrev s_law_whole : Stmt := topS 13
abbrev n_law_whole : List Str := ["found"]
theorem sc_law_whole : FnScope n_law_whole ["found"] (defScope s_law_whole) := ⟨rfl, rfl, rfl, by decide +kernel, rfl, by decide +kernel, by decide +kernel⟩
abbrev s_law_row_by : Stmt := topS 14
abbrev n_law_row_by : List Str := ["script", "first", "count", "way", "found", "k", "cell"]
theorem sc_law_row_by : FnScope n_law_row_by ["script", "first", "count", "way"] (defScope s_law_row_by) := ⟨rfl, rfl, rfl, by decide +kernel, rfl, by decide +kernel, by decide +kernel⟩
abbrev s_law_nodes : Stmt := topS 15
abbrev n_law_nodes : List Str := ["script", "head"]
theorem sc_law_nodes : FnScope n_law_nodes ["script"] (defScope s_law_nodes) := ⟨rfl, rfl, rfl, by decide +kernel, rfl, by decide +kernel, by decide +kernel⟩
abbrev s_law_good : Stmt := topS 16
abbrev n_law_good : List Str := ["row", "total", "number"]
theorem sc_law_good : FnScope n_law_good ["row"] (defScope s_law_good) := ⟨rfl, rfl, rfl, by decide +kernel, rfl, by decide +kernel, by decide +kernel⟩
abbrev s_law_starts_right : Stmt := topS 17
abbrev n_law_starts_right : List Str := ["found", "row", "last", "k"]
theorem sc_law_starts_right : FnScope n_law_starts_right ["found", "row"] (defScope s_law_starts_right) := ⟨rfl, rfl, rfl, by decide +kernel, rfl, by decide +kernel, by decide +kernel⟩
abbrev s_law : Stmt := topS 18
abbrev n_law : List Str := ["script", "row", "handed", "found", "k", "behind", "one"]
theorem sc_law : FnScope n_law ["script"] (defScope s_law) := ⟨rfl, rfl, rfl, by decide +kernel, rfl, by decide +kernel, by decide +kernel⟩
structure Txt (K : PySem.W.Frag) (mg : Str → Option Value) : Prop where
  f_see_row : Txt1 K mg "see_row" s_see_row ["row"]
  f_turned : Txt1 K mg "turned" s_turned ["row", "k"]
  f_sums_of : Txt1 K mg "sums_of" s_sums_of ["row"]
  f_is_good : Txt1 K mg "is_good" s_is_good ["row"]
  f_starts : Txt1 K mg "starts" s_starts ["row"]
  f_law_cell_at : Txt1 K mg "_law_cell_at" s_law_cell_at ["script", "k"]
  f_law_whole : Txt1 K mg "_law_whole" s_law_whole ["found"]
  f_law_row_by : Txt1 K mg "_law_row_by" s_law_row_by ["script", "first", "count", "way"]
  f_law_nodes : Txt1 K mg "_law_nodes" s_law_nodes ["script"]
  f_law_good : Txt1 K mg "_law_good" s_law_good ["row"]
  f_law_starts_right : Txt1 K mg "_law_starts_right" s_law_starts_right ["found", "row"]
  f_law : Txt1 K mg "law" s_law ["script"]
  m_bool : mg "bool" = none
  m_int : mg "int" = none
  m_isinstance : mg "isinstance" = none
  m_len : mg "len" = none
  m_list : mg "list" = none
  m_max : mg "max" = none
  m_range : mg "range" = none
  m_sorted : mg "sorted" = none
  m_sum : mg "sum" = none
  c_MOST : ∃ t, mg "MOST" = some (.int 60 t)
  e_TurnError : ExcT K mg "TurnError"
  e_BadRow : ExcT K mg "BadRow"
  e_NoTurn : ExcT K mg "NoTurn"
end Tr
local macro_rules | `(tactic| walk_at "sq") => `(tactic| first
  | assumption
  | (refine Tr.Led.sq (H0 := ?hH) (l := ?hl) ?L 0 ?h; (case L => assumption); (case h => rfl))
  | (refine Tr.Led.sq (H0 := ?hH) (l := ?hl) ?L 1 ?h; (case L => assumption); (case h => rfl))
  | (refine Tr.Led.sq (H0 := ?hH) (l := ?hl) ?L 2 ?h; (case L => assumption); (case h => rfl))
  | (refine Tr.Led.sq (H0 := ?hH) (l := ?hl) ?L 3 ?h; (case L => assumption); (case h => rfl))
  | (refine Tr.Led.sq (H0 := ?hH) (l := ?hl) ?L 4 ?h; (case L => assumption); (case h => rfl))
  | (refine Tr.Led.sq (H0 := ?hH) (l := ?hl) ?L 5 ?h; (case L => assumption); (case h => rfl))
  | (refine Tr.Led.sq (H0 := ?hH) (l := ?hl) ?L 6 ?h; (case L => assumption); (case h => rfl))
  | (refine Tr.Led.sq (H0 := ?hH) (l := ?hl) ?L 7 ?h; (case L => assumption); (case h => rfl))
  | (refine Tr.Led.seq (H0 := ?hH) (l := ?hl) ?L ?h; (case L => assumption); (case h => assumption)))
local macro_rules | `(tactic| walk_at "s1") => `(tactic| first
  | with_reducible refine Tr.rd_seq ?_
  | with_reducible refine Tr.rd_asg ?_
  | with_reducible refine Tr.rd_name ?_
  | with_reducible refine Tr.rd_c ?_
  | ((with_reducible refine Tr.rd_var (v := ?hvv) ?hvr ?_); (case hvr => exact rfl))
  | with_reducible refine Tr.rd_op ?_
  | with_reducible refine Tr.rd_cons ?_
  | with_reducible refine Tr.rd_nil ?_
  | with_reducible refine Tr.rd_addI ?_
  | with_reducible refine Tr.rd_sub ?_
  | with_reducible refine Tr.rd_neg ?_
  | with_reducible refine Tr.rd_drop ?_
  | with_reducible refine Tr.rd_ret ?_
  | with_reducible refine Tr.rd_ifS ?_
  | with_reducible refine Tr.rd_test ?_
  | with_reducible refine Tr.rd_testB ?_
  | with_reducible refine Tr.rd_isB ?_
  | with_reducible refine Tr.rd_isI ?_
  | with_reducible refine Tr.rd_and ?_
  | with_reducible refine Tr.rd_or ?_
  | with_reducible refine Tr.rd_not ?_
  | with_reducible refine Tr.rd_andV ?_
  | with_reducible refine Tr.rd_orV ?_
  | with_reducible refine Tr.rd_notV ?_
  | with_reducible refine Tr.rd_un ?_
  | with_reducible refine Tr.rd_call ?_
  | with_reducible refine Tr.rd_callG ?_
  | with_reducible refine Tr.rd_CB ?_
  | with_reducible refine Tr.rd_BM ?_
  | with_reducible refine Tr.rd_BM0 ?_
  | ((with_reducible refine Tr.rd_ty (xs := ?hxs) ?hsq ?_); (case hsq => walk_at "sq"))
  | with_reducible refine Tr.rd_sl ?_
  | with_reducible refine Tr.rd_noP ?_
  | with_reducible refine Tr.rd_part ?_
  | with_reducible refine Tr.rd_lst ?_
  | with_reducible refine Tr.rd_tup ?_
  | with_reducible refine Tr.rd_lt ?_
  | with_reducible refine Tr.rd_le ?_
  | with_reducible refine Tr.rd_gt ?_
  | with_reducible refine Tr.rd_ge ?_
  | with_reducible refine Tr.rd_eqI ?_
  | with_reducible refine Tr.rd_neI ?_
  | with_reducible refine Tr.rd_eqS ?_
  | with_reducible refine Tr.rd_neS ?_
  | with_reducible refine Tr.rd_eqB ?_
  | with_reducible refine Tr.rd_neB ?_
  | with_reducible refine Tr.rd_isN ?_
  | with_reducible refine Tr.rd_rz ?_
  | with_reducible refine Tr.rd_retN ?_
  | with_reducible refine Tr.rd_next ?_
  | with_reducible refine Tr.rd_brk ?_
  | with_reducible refine Tr.rd_yes ?_
  | with_reducible refine L2.iteT ?_
  | with_reducible refine L2.iteF ?_
  | with_reducible refine Tr.iteNT ?_
  | with_reducible refine Tr.iteNF ?_
  | with_reducible refine Tr.rd_for ?_
  | with_reducible refine Tr.rd_lc ?_
  | with_reducible refine Tr.rd_iList ?_
  | with_reducible refine Tr.rd_iTup ?_
  | with_reducible refine Tr.rd_iStr ?_
  | with_reducible refine Tr.rd_iRng1 ?_
  | with_reducible refine Tr.rd_iRng2 ?_
  | with_reducible refine Tr.rd_iRng3 ?_
  | with_reducible refine Tr.rd_iRev ?_
  | with_reducible refine Tr.rd_itS ?_
  | ((with_reducible refine Tr.rd_itL (xs := ?hxs) ?hsq ?_); (case hsq => walk_at "sq"))
  | ((with_reducible refine Tr.rd_itV (xs := ?hxs) ?hsq ?_); (case hsq => walk_at "sq"))
  | ((with_reducible refine Tr.rd_mod ?hlt ?_); (case hlt => first | decide | assumption | omega))
  | ((with_reducible refine Tr.rd_divK ?hlt ?hl2 ?_); (case hlt => first | decide | assumption | omega); (case hl2 => first | decide | assumption | omega))
  | ((with_reducible refine Tr.rd_lenL (xs := ?hxs) ?hsq ?_); (case hsq => walk_at "sq"))
  | with_reducible refine Tr.rd_intB ?_
  | with_reducible refine Tr.rd_revL ?_
  | with_reducible refine Tr.rd_gMax2 ?_
  | with_reducible refine Tr.rd_gMin2 ?_)
local macro_rules | `(tactic| walk_at "s") => `(tactic| (repeat walk_at "s1"))
namespace Tr
open PySem PySem.Spec PyProof.Rows L2
def sp_law_cell_at (K : PySem.W.Frag) : Sp := fun vs H Q _ => ∃ a ns, ∃ k : Nat, vs = [.ref a, .int k] ∧ SqL K H a (ns.map V.int) ∧ Q (.int (cell ns k)) H
theorem cell_in {ns : List Int} {k : Nat} (h : k < ns.length) : (ns.map V.int)[k]? = some (.int (cell ns k)) := by
  unfold cell
  rw [List.getElem?_map, List.getD_eq_getElem?_getD, List.getElem?_eq_getElem h]
  rfl
theorem cell_out {ns : List Int} {k : Nat} (h : ns.length ≤ k) : cell ns k = 0 := by
  unfold cell
  rw [List.getD_eq_getElem?_getD, List.getElem?_eq_none h]
  rfl
theorem ok_law_cell_at {P : Program} {w : World} {K : PySem.W.Frag} {mg : Str → Option Value} {base : Heap} (T : Txt K mg) : Fn P w K mg base (L2.CX P w) 1 "_law_cell_at" ["script", "k"] (sp_law_cell_at K) := by
  refine fnOf1 T.f_law_cell_at sc_law_cell_at (fun vs H Q E h => ?_) (fun f cdv A outer s H vs Q E hr h => ⟨_, (pss_cons (ps_if (pt_cmpR op_gLt (pv 1) (pe_callB (kLen K) (by rfl) T.m_len (by decide +kernel) (pa_cons (pv 0) pa_nil)) (nomark _)) (pss_one (ps_ret (pe_ix (kIx K) (pv 0) (pv 1) (fun _ _ => rfl)))) pss_nil)
      (pss_one (ps_ret pe_int))), ?_⟩)
  · obtain ⟨a, ns, k, rfl, _⟩ := h
    rfl
  obtain ⟨a, ns, k, rfl, hS, hq⟩ := h
  try dsimp only [L2.cxOf]
  walk_at "s"
  rw [List.length_map]
  refine ited (fun c => ?_) (fun c => ?_)
  · walk_at "s"
    exact rd_ixL hS (atI_nat (cell_in (by omega))) hq
  · walk_at "s"
    rw [cell_out (by omega)] at hq
    exact hq
end Tr
namespace Tr
open PySem PySem.Spec PyProof.Rows L2
def sp_law_row_by (K : PySem.W.Frag) : Sp := fun vs H Q _ => ∃ a ns, ∃ first count : Nat, ∃ way : Int, vs = [.ref a, .int first, .int count, .int way] ∧ SqL K H a (ns.map V.int) ∧ count ≤ 60 ∧ newL H Q ((rowBy ns first count way).map V.int)
theorem ok_law_row_by {P : Program} {w : World} {K : PySem.W.Frag} {mg : Str → Option Value} {base : Heap} (T : Txt K mg) : Fn P w K mg base (L2.CX P w) 2 "_law_row_by" ["script", "first", "count", "way"] (sp_law_row_by K) := by
  refine fnOf1 T.f_law_row_by sc_law_row_by (fun vs H Q E h => ?_) (fun f cdv A outer s H vs Q E hr h => ⟨_, (pss_cons (ps_set (i := 4) sc_law_row_by.nd rfl (Or.inl rfl) (pe_lst pa_nil))
      (pss_cons (ps_for (passes_of rfl) rfl (pi_range1 rfl T.m_range (pa_cons (pv 2) pa_nil)) (pg_name (i := 5) sc_law_row_by.nd rfl (Or.inl rfl)) (pss_cons (ps_set (i := 6) sc_law_row_by.nd rfl (Or.inl rfl) (pe_callF (ok_law_cell_at T) (hr.mono (by decide)) rfl passL (pa_cons (pv 0) (pa_cons (pe_op op_gAdd (pv 1) (pv 5)) pa_nil))))
      (pss_one (ps_if (pt_cmpR (kEq K hr.units) (pv 3) pe_int (nomark _)) (pss_one (ps_expr (kbm K PySem.F.plainAttrs_list PySem.F.slot_list_append PySem.F.type_list_append mt_append (pv 4) (pa_cons (pe_op op_gSub pe_int (pe_op op_gMod (pv 6) pe_int)) pa_nil)))) (pss_one (ps_if (pt_cmpR (kEq K hr.units) (pv 3) pe_int (nomark _)) (pss_one (ps_expr (kbm K PySem.F.plainAttrs_list PySem.F.slot_list_append PySem.F.type_list_append mt_append (pv 4) (pa_cons (pe_ix (kIx K) (pe_lst (pa_cons pe_int (pa_cons pe_int (pa_cons pe_int (pa_cons pe_int (pa_cons (pe_un op_gNeg pe_int) (pa_cons (pe_un op_gNeg pe_int) pa_nil))))))) (pe_op op_gMod (pv 6) pe_int) (fun _ _ => rfl)) pa_nil)))) (pss_one (ps_if (pt_cmpR (kEq K hr.units) (pv 3) pe_int (nomark _)) (pss_one (ps_expr (kbm K PySem.F.plainAttrs_list PySem.F.slot_list_append PySem.F.type_list_append mt_append (pv 4) (pa_cons (pe_ix (kIx K) (pe_lst (pa_cons pe_int (pa_cons pe_int (pa_cons pe_int (pa_cons pe_int (pa_cons pe_int (pa_cons (pe_op op_gSub pe_int (pe_op op_gMod (pe_op op_gDiv (pv 6) pe_int) pe_int)) (pa_cons pe_int (pa_cons pe_int pa_nil))))))))) (pe_op op_gMod (pv 6) pe_int) (fun _ _ => rfl)) pa_nil)))) (pss_one (ps_expr (kbm K PySem.F.plainAttrs_list PySem.F.slot_list_append PySem.F.type_list_append mt_append (pv 4) (pa_cons (pe_op op_gSub pe_int (pe_op op_gMod (pv 6) pe_int)) pa_nil))))))))))))
      (pss_one (ps_ret (pv 4))))), ?_⟩)
  · obtain ⟨a, ns, first, count, way, rfl, _⟩ := h
    rfl
  obtain ⟨a, ns, first, count, way, rfl, hS, hc, hq⟩ := h
  try dsimp only [L2.cxOf]
  walk_at "s"
  refine rd_mkL (Led.start H) (sz (Nat.zero_le 0)) fun p H1 L1 _ => ?_
  walk_at "s"
  refine rd_itR1 count (Int.toNat_natCast _) (by omega) (by omega) ?_
  refine lp_rng0 (fun i σ H' => ∃ y z, σ = [some (.ref a), some (.int first), some (.int count), some (.int way), some (.ref p), y, z] ∧ Led H H' [(p, .lst ((rowBy ns first i way).map V.int))]) ⟨none, none, rfl, L1⟩ ?_ ?_
  · rintro i σ H' hi ⟨y, z, rfl, L⟩
    have hz : ((rowBy ns first i way).map V.int).length < sizeLine := by
      rw [List.length_map, rowBy_len]
      exact szl (m := 1000) (by omega)
    have fin : ∀ (c : Int) (H2 : Hp) (σ2 : L2.St), rowCell way (cell ns (first + i)) = c → Led H H2 [(p, .lst ((rowBy ns first i way).map V.int ++ [.int c]))] → (∃ y z, σ2 = [some (.ref a), some (.int first), some (.int count), some (.int way), some (.ref p), y, z]) →
        ∃ y z, σ2 = [some (.ref a), some (.int first), some (.int count), some (.int way), some (.ref p), y, z] ∧ Led H H2 [(p, .lst ((rowBy ns first (i + 1) way).map V.int))] := by
      rintro c H2 σ2 e L2 ⟨y, z, rfl⟩
      refine ⟨y, z, rfl, L2.to ?_⟩
      unfold rowBy
      rw [List.range_succ, List.map_append, List.map_append, ← e]
      rfl
    walk_at "s"
    refine ⟨a, ns, first + i, rfl, L.seq hS, ?_⟩
    walk_at "s"
    refine ited (fun w0 => ?_) (fun w0 => ?_)
    · walk_at "s"
      refine rd_append L 0 rfl hz fun H2 L2 _ => fin _ H2 _ ?_ L2 ⟨_, _, rfl⟩
      unfold rowCell
      rw [if_pos w0]
    walk_at "s"
    refine ited (fun w1 => ?_) (fun w1 => ?_)
    · walk_at "s"
      refine rd_mkL L (sz (m := 6) (by decide)) fun p2 H2 L2 _ => ?_
      walk_at "s"
      refine rd_ixL (L2.sq 0) (at_int (ls := [1, 1, 1, 0, -1, -2]) (by omega) (by show _ < (6 : Int); omega)) ?_
      walk_at "s"
      refine rd_append L2 1 rfl hz fun H3 L3 _ => fin _ H3 _ ?_ L3.tail ⟨_, _, rfl⟩
      unfold rowCell
      rw [if_neg w0, if_pos w1]
    walk_at "s"
    refine ited (fun w2 => ?_) (fun w2 => ?_)
    · walk_at "s"
      refine rd_mkL L (sz (Nat.le_refl 8)) fun p2 H2 L2 _ => ?_
      walk_at "s"
      refine rd_ixL (L2.sq 0) (at_int (ls := [1, 1, 1, 1, 1, 1 - cell ns (first + i) / 8 % 62, 0, 1]) (by omega) (by show _ < (8 : Int); omega)) ?_
      walk_at "s"
      refine rd_append L2 1 rfl hz fun H3 L3 _ => fin _ H3 _ ?_ L3.tail ⟨_, _, rfl⟩
      unfold rowCell
      rw [if_neg w0, if_neg w1, if_pos w2]
    walk_at "s"
    refine rd_append L 0 rfl hz fun H2 L2 _ => fin _ H2 _ ?_ L2 ⟨_, _, rfl⟩
    unfold rowCell
    rw [if_neg w0, if_neg w1, if_neg w2]
  · rintro σ H' ⟨y, z, rfl, L⟩
    walk_at "s"
    exact hq p H' L
end Tr
namespace Tr
open PySem PySem.Spec PyProof.Rows L2
def sp_see_row (K : PySem.W.Frag) : Sp := fun vs H Q E => ∃ a ns, vs = [.ref a] ∧ SqL K H a (ns.map V.int) ∧ (isRow ns → newV H Q .non) ∧ (¬ isRow ns → newE K H E "BadRow")
theorem ok_see_row {P : Program} {w : World} {K : PySem.W.Frag} {mg : Str → Option Value} {base : Heap} (T : Txt K mg) : Fn P w K mg base (L2.CX P w) 1 "see_row" ["row"] (sp_see_row K) := by
  refine fnOf1 T.f_see_row sc_see_row (fun vs H Q E h => ?_) (fun f cdv A outer s H vs Q E hr h => ⟨_, (pss_cons (ps_if (PW.pt (pw_or (pt_cmpR op_gLt (pe_callB (kLen K) (by rfl) T.m_len (by decide +kernel) (pa_cons (pv 0) pa_nil)) pe_int (nomark _)) (pw_or1 (pt_cmpR op_gGt (pe_callB (kLen K) (by rfl) T.m_len (by decide +kernel) (pa_cons (pv 0) pa_nil)) (pe_gint T.c_MOST rfl) (nomark _))))) (pss_one (ps_rz T.e_BadRow rfl (takes_of rfl rfl rfl rfl) rfl)) pss_nil)
      (pss_one (ps_for (passes_of rfl) rfl (kiList K (pv 0)) (pg_name (i := 1) sc_see_row.nd rfl (Or.inl rfl)) (pss_one (ps_if (PW.pt (pw_or (pt_cmpR op_gGt (pv 1) pe_int (nomark _)) (pw_or1 (pt_cmpR op_gLt (pv 1) (pe_un op_gNeg (pe_gint T.c_MOST rfl)) (nomark _))))) (pss_one (ps_rz T.e_BadRow rfl (takes_of rfl rfl rfl rfl) rfl)) pss_nil))))), ?_⟩)
  · obtain ⟨a, ns, rfl, _⟩ := h
    rfl
  obtain ⟨a, ns, rfl, hS, hq, he⟩ := h
  try dsimp only [L2.cxOf]
  walk_at "s"
  have bad : ¬ isRow ns → E (.ref (He.ga K "BadRow")) none H := fun h => he h H (Led.start H)
  refine ited (fun c => ?_) (fun c => ?_)
  · walk_at "s"
    exact bad fun r => by
      have := r.1
      rw [List.length_map] at c
      omega
  walk_at "s"
  refine ited (fun c2 => ?_) (fun c2 => ?_)
  · walk_at "s"
    exact bad fun r => by
      have := r.2.1
      rw [List.length_map] at c2
      omega
  rw [List.length_map] at c c2
  walk_at "s"
  refine lp_ints (ns := ns) (fun i σ H' => ∃ y, σ = [some (.ref a), y] ∧ H' = H ∧ ∀ n ∈ ns.take i, n ≤ 1 ∧ -60 ≤ n) ⟨none, rfl, rfl, by simp⟩ (fun i σ H' _ ⟨_, _, e, _⟩ => e ▸ hS) ?_ ?_
  · rintro i n σ H' hi ⟨y, rfl, rfl, hn⟩
    walk_at "s"
    refine ited (fun c3 => ?_) (fun c3 => ?_)
    · walk_at "s"
      exact bad fun r => by
        have := r.2.2 n (mem_take hi)
        omega
    walk_at "s"
    refine ited (fun c4 => ?_) (fun c4 => ?_)
    · walk_at "s"
      exact bad fun r => by
        have := r.2.2 n (mem_take hi)
        omega
    walk_at "s"
    refine ⟨some (.int n), rfl, rfl, fun m hm => ?_⟩
    rw [List.take_add_one, hi] at hm
    rcases List.mem_append.mp hm with hm | hm
    · exact hn m hm
    · have e : m = n := by simpa using hm
      subst e
      omega
  · rintro σ H' ⟨y, rfl, rfl, hn⟩
    rw [List.take_length] at hn
    exact hq ⟨by omega, by omega, hn⟩ _ (Led.start _)
end Tr
namespace Tr
open PySem PySem.Spec PyProof.Rows L2
def sp_sums_of (K : PySem.W.Frag) : Sp := fun vs H Q _ => ∃ a ns, vs = [.ref a] ∧ SqL K H a (ns.map V.int) ∧ ns.length ≤ 1000 ∧ newL H Q ((sums ns).map V.int)
theorem ok_sums_of {P : Program} {w : World} {K : PySem.W.Frag} {mg : Str → Option Value} {base : Heap} (T : Txt K mg) : Fn P w K mg base (L2.CX P w) 1 "sums_of" ["row"] (sp_sums_of K) := by
  refine fnOf1 T.f_sums_of sc_sums_of (fun vs H Q E h => ?_) (fun f cdv A outer s H vs Q E hr h => ⟨_, (pss_cons (ps_set (i := 1) sc_sums_of.nd rfl (Or.inl rfl) (pe_lst pa_nil))
      (pss_cons (ps_set (i := 2) sc_sums_of.nd rfl (Or.inl rfl) pe_int)
      (pss_cons (ps_for (passes_of rfl) rfl (kiList K (pv 0)) (pg_name (i := 3) sc_sums_of.nd rfl (Or.inl rfl)) (pss_cons (ps_set (i := 2) sc_sums_of.nd rfl (Or.inl rfl) (pe_op op_gAdd (pv 2) (pv 3)))
      (pss_one (ps_expr (kbm K PySem.F.plainAttrs_list PySem.F.slot_list_append PySem.F.type_list_append mt_append (pv 1) (pa_cons (pv 2) pa_nil))))))
      (pss_one (ps_ret (pv 1)))))), ?_⟩)
  · obtain ⟨a, ns, rfl, _⟩ := h
    rfl
  obtain ⟨a, ns, rfl, hS, hl, hq⟩ := h
  try dsimp only [L2.cxOf]
  walk_at "s"
  refine rd_mkL (Led.start H) (sz (Nat.zero_le 0)) fun p H1 L1 _ => ?_
  walk_at "s"
  refine lp_ints (ns := ns) (fun i σ H' => ∃ y, σ = [some (.ref a), some (.ref p), some (.int (ns.take i).sum), y] ∧ Led H H' [(p, .lst (((List.range i).map fun k => (ns.take (k + 1)).sum).map V.int))]) ⟨none, rfl, L1⟩ (fun i σ H' _ ⟨_, _, L⟩ => L.seq hS) ?_ ?_
  · rintro i n σ H' hi ⟨y, rfl, L⟩
    have hlt := (List.getElem?_eq_some_iff.mp hi).1
    walk_at "s"
    refine rd_append L 0 rfl (by rw [List.length_map, List.length_map, List.length_range]; exact szl (m := 1000) (by omega)) fun H2 L2 _ => ?_
    rw [← take_sum hi] at L2 ⊢
    refine ⟨some (.int n), rfl, L2.to ?_⟩
    rw [List.range_succ, List.map_append, List.map_append]
    rfl
  · rintro σ H' ⟨y, rfl, L⟩
    walk_at "s"
    exact hq p H' L
end Tr
namespace Tr
open PySem PySem.Spec PyProof.Rows L2
def sp_is_good (K : PySem.W.Frag) : Sp := fun vs H Q _ => ∃ (a : Addr) (ns : List Int), vs = [.ref a] ∧ SqL K H a (ns.map V.int) ∧ ns.length ≤ 1000 ∧ newV H Q (.bl (goodB ns))
theorem ok_is_good {P : Program} {w : World} {K : PySem.W.Frag} {mg : Str → Option Value} {base : Heap} (T : Txt K mg) : Fn P w K mg base (L2.CX P w) 2 "is_good" ["row"] (sp_is_good K) := by
  refine fnOf1 T.f_is_good sc_is_good (fun vs H Q E h => ?_) (fun f cdv A outer s H vs Q E hr h => ⟨_, (pss_cons (ps_for (passes_of rfl) rfl (kiList K (pe_callF (ok_sums_of T) (hr.mono (by decide)) rfl passL (pa_cons (pv 0) pa_nil))) (pg_name (i := 1) sc_is_good.nd rfl (Or.inl rfl)) (pss_one (ps_if (pt_cmpR op_gLt (pv 1) pe_int (nomark _)) (pss_one (ps_ret pe_bl)) pss_nil)))
      (pss_one (ps_ret pe_bl))), ?_⟩)
  · obtain ⟨a, ns, rfl, _⟩ := h
    rfl
  obtain ⟨a, ns, rfl, hS, hl, hq⟩ := h
  try dsimp only [L2.cxOf]
  walk_at "s"
  refine ⟨a, ns, rfl, hS, hl, fun p H1 L1 => ?_⟩
  walk_at "s"
  refine lp_ints (ns := sums ns) (fun i σ H' => ∃ y, σ = [some (.ref a), y] ∧ H' = H1 ∧ ∀ k, k < i → 1 ≤ (ns.take (k + 1)).sum) ⟨none, rfl, rfl, fun _ h => absurd h (Nat.not_lt_zero _)⟩ (fun i σ H' _ ⟨_, _, e, _⟩ => e ▸ L1.sq 0) ?_ ?_
  · rintro i n σ H' hi ⟨y, rfl, rfl, hk⟩
    obtain ⟨h1, h2⟩ := sums_at hi
    walk_at "s"
    refine ited (fun c => ?_) (fun c => ?_)
    · walk_at "s"
      rw [goodB_no h1 (by omega)] at hq
      exact hq H' L1.none
    · walk_at "s"
      refine ⟨_, rfl, rfl, fun k hk' => ?_⟩
      by_cases e : k = i
      · subst e
        omega
      · exact hk k (by omega)
  · rintro σ H' ⟨y, rfl, rfl, hk⟩
    walk_at "s"
    rw [goodB_iff.mpr fun k h => hk k (by rw [sums_len]; exact h)] at hq
    exact hq H' L1.none
end Tr
namespace Tr
open PySem PySem.Spec PyProof.Rows L2
def sp_starts (K : PySem.W.Frag) : Sp := fun vs H Q E => ∃ (a : Addr) (ns : List Int), vs = [.ref a] ∧ SqL K H a (ns.map V.int) ∧ (isRow ns → newL H Q ((startsOf ns).map fun k : Nat => V.int k)) ∧ (¬ isRow ns → newE K H E "BadRow")
theorem ok_starts {P : Program} {w : World} {K : PySem.W.Frag} {mg : Str → Option Value} {base : Heap} (T : Txt K mg) : Fn P w K mg base (L2.CX P w) 3 "starts" ["row"] (sp_starts K) := by
  refine fnOf1 T.f_starts sc_starts (fun vs H Q E h => ?_) (fun f cdv A outer s H vs Q E hr h => ⟨_, (pss_cons (ps_expr (pe_callF (ok_see_row T) (hr.mono (by decide)) rfl (passes_call (E := E) (takes_of rfl rfl rfl rfl) (fun _ _ _ _ h => h)) (pa_cons (pv 0) pa_nil)))
      (pss_one (ps_ret (pe_lc (own := [("k", 1)]) (g := gName 1) rfl sc_starts.nd (pi_range1 rfl T.m_range (pa_cons (pe_callB (kLen K) (by rfl) T.m_len (by decide +kernel) (pa_cons (pv 0) pa_nil)) pa_nil)) (blkOk_by (N := n_starts) (sc := defScope s_starts) (by decide +kernel)) (fun _ _ _ _ _ => pg_name (i := 1) sc_starts.nd rfl (Or.inl rfl)) (fun _ _ _ _ _ => (pts_one (pt_val (pe_callF (ok_is_good T) (hr.mono (by decide)) rfl passL (pa_cons (pe_op op_gAdd (pe_slice (kSl K) (pv 0) (po_some (pv 1)) po_none) (pe_slice (kSl K) (pv 0) po_none (po_some (pv 1)))) pa_nil))))) (fun _ _ _ _ _ => (pv 1)))))), ?_⟩)
  · obtain ⟨a, ns, rfl, _⟩ := h
    rfl
  obtain ⟨a, ns, rfl, hS, hq, he⟩ := h
  try dsimp only [L2.cxOf]
  walk_at "s"
  refine ⟨a, ns, rfl, hS, fun hro H1 L1 => ?_, he⟩
  have hr2 := hro.2.1
  have hS1 := L1.seq hS
  walk_at "s"
  rw [List.length_map]
  refine rd_itR1 ns.length (Int.toNat_natCast _) (by omega) (by omega) ?_
  refine lc_rng L1 fun D H2 L2 _ => ⟨fun i H3 => Led H H3 [(D, .lst (((List.range i).filter fun k => goodB (turn ns k)).map fun k : Nat => V.int k))], L2, fun i H3 hi L3 => ?_, fun H3 L3 => hq hro D H3 L3⟩
  have e : (0 : Int) + (i : Nat) = (i : Nat) := by omega
  rw [e]
  walk_at "s"
  refine ⟨rfl, ?_⟩
  walk_at "s"
  refine rd_slL L3 (L3.seq hS) fun p4 H4 L4 _ => ?_
  walk_at "s"
  refine rd_slL L4 (L4.seq hS) fun p5 H5 L5 _ => ?_
  refine rd_addL L5 (L5.get 1) (L5.get 0) (sz (m := 200) (by
    have := cutV_length (ns.map V.int) (some (i : Int)) none
    have := cutV_length (ns.map V.int) none (some (i : Int))
    rw [List.length_map] at *
    omega)) fun p6 H6 L6 _ => ?_
  rw [turn_cut] at L6
  walk_at "s"
  refine ⟨p6, turn ns i, rfl, L6.sq 0, by rw [turn_len]; omega, fun H7 M7 => ?_⟩
  have L7 : Led H H7 [(D, .lst (((List.range i).filter fun k => goodB (turn ns k)).map fun k : Nat => V.int k))] := (L6.call M7).drop1 (m := [_, _, _])
  walk_at "s"
  refine iteB (fun c => ?_) (fun c => ?_)
  · walk_at "s"
    refine rd_put1 L7 0 rfl (by
      rw [List.length_map]
      refine szl (m := 200) (Nat.le_trans (List.length_filter_le _ _) ?_)
      rw [List.length_range]
      omega) fun H8 L8 _ => L8.to ?_
    rw [List.range_succ, List.filter_append, List.map_append]
    simp [c]
  · refine L7.to ?_
    rw [List.range_succ, List.filter_append, List.map_append]
    simp [c]
end Tr
namespace Tr
open PySem PySem.Spec PyProof.Rows L2
def sp_law_nodes (K : PySem.W.Frag) : Sp := fun vs H Q _ => ∃ a ns, vs = [.ref a] ∧ SqL K H a (ns.map V.int) ∧ Q (.int (nodesOf ns)) H
theorem ok_law_nodes {P : Program} {w : World} {K : PySem.W.Frag} {mg : Str → Option Value} {base : Heap} (T : Txt K mg) : Fn P w K mg base (L2.CX P w) 2 "_law_nodes" ["script"] (sp_law_nodes K) := by
  refine fnOf1 T.f_law_nodes sc_law_nodes (fun vs H Q E h => ?_) (fun f cdv A outer s H vs Q E hr h => ⟨_, (pss_cons (ps_set (i := 1) sc_law_nodes.nd rfl (Or.inl rfl) (pe_callF (ok_law_cell_at T) (hr.mono (by decide)) rfl passL (pa_cons (pv 0) (pa_cons pe_int pa_nil))))
      (pss_cons (ps_if (pt_cmpR (kEq K hr.units) (pe_op op_gMod (pe_op op_gDiv (pv 1) pe_int) pe_int) pe_int (nomark _)) (pss_one (ps_ret (pe_op op_gAdd pe_int (pe_op op_gMod (pe_op op_gDiv (pv 1) pe_int) pe_int)))) pss_nil)
      (pss_one (ps_ret (pe_op op_gAdd pe_int (pe_op op_gMod (pv 1) pe_int)))))), ?_⟩)
  · obtain ⟨a, ns, rfl, _⟩ := h
    rfl
  obtain ⟨a, ns, rfl, hS, hq⟩ := h
  try dsimp only [L2.cxOf]
  walk_at "s"
  refine ⟨a, ns, 0, rfl, hS, ?_⟩
  walk_at "s"
  refine ited (fun c => ?_) (fun c => ?_)
  · walk_at "s"
    have e : ((nodesOf ns : Nat) : Int) = 1 + cell ns 0 / 48 % 60 := by
      unfold nodesOf
      rw [if_pos c]
      omega
    rw [e] at hq
    exact hq
  · walk_at "s"
    have e : ((nodesOf ns : Nat) : Int) = 1 + cell ns 0 % 12 := by
      unfold nodesOf
      rw [if_neg c]
      omega
    rw [e] at hq
    exact hq
end Tr
namespace Tr
open PySem PySem.Spec PyProof.Rows L2
def sp_turned (K : PySem.W.Frag) : Sp := fun vs H Q E => ∃ a ns k, vs = [.ref a, .int k] ∧ SqL K H a (ns.map V.int) ∧ (isRow ns → 0 ≤ k → k < ns.length → newL H Q ((turn ns k.toNat).map V.int)) ∧ (¬ isRow ns → newE K H E "BadRow") ∧ (isRow ns → (k < 0 ∨ k ≥ ns.length) → newE K H E "NoTurn")
theorem ok_turned {P : Program} {w : World} {K : PySem.W.Frag} {mg : Str → Option Value} {base : Heap} (T : Txt K mg) : Fn P w K mg base (L2.CX P w) 2 "turned" ["row", "k"] (sp_turned K) := by
  refine fnOf1 T.f_turned sc_turned (fun vs H Q E h => ?_) (fun f cdv A outer s H vs Q E hr h => ⟨_, (pss_cons (ps_expr (pe_callF (ok_see_row T) (hr.mono (by decide)) rfl (passes_call (E := E) (takes_of rfl rfl rfl rfl) (fun _ _ _ _ h => h)) (pa_cons (pv 0) pa_nil)))
      (pss_cons (ps_if (PW.pt (pw_or (pt_cmpR op_gLt (pv 1) pe_int (nomark _)) (pw_or1 (pt_cmpR op_gGe (pv 1) (pe_callB (kLen K) (by rfl) T.m_len (by decide +kernel) (pa_cons (pv 0) pa_nil)) (nomark _))))) (pss_one (ps_rz T.e_NoTurn rfl (takes_of rfl rfl rfl rfl) rfl)) pss_nil)
      (pss_one (ps_ret (pe_op op_gAdd (pe_callTy (kList K) (by rfl) T.m_list (by decide +kernel) (pa_cons (pe_slice (kSl K) (pv 0) (po_some (pv 1)) po_none) pa_nil)) (pe_callTy (kList K) (by rfl) T.m_list (by decide +kernel) (pa_cons (pe_slice (kSl K) (pv 0) po_none (po_some (pv 1))) pa_nil))))))), ?_⟩)
  · obtain ⟨a, ns, k, rfl, _⟩ := h
    rfl
  obtain ⟨a, ns, k, rfl, hS, hq, he, hk⟩ := h
  try dsimp only [L2.cxOf]
  walk_at "s"
  refine ⟨a, ns, rfl, hS, fun hr H1 L1 => ?_, he⟩
  have hS1 := L1.seq hS
  walk_at "s"
  refine ited (fun c => ?_) (fun c => ?_)
  · walk_at "s"
    exact hk hr (.inl c) H1 L1
  walk_at "s"
  rw [List.length_map]
  refine ited (fun c2 => ?_) (fun c2 => ?_)
  · walk_at "s"
    exact hk hr (.inr c2) H1 L1
  obtain ⟨j, rfl⟩ : ∃ j : Nat, k = j := ⟨k.toNat, by omega⟩
  walk_at "s"
  refine rd_slL L1 hS1 fun p2 H2 L2 _ => ?_
  walk_at "s"
  refine rd_list L2 (L2.sq 0) fun p3 H3 L3 _ => ?_
  walk_at "s"
  refine rd_slL L3 (L3.seq hS) fun p4 H4 L4 _ => ?_
  walk_at "s"
  refine rd_list L4 (L4.sq 0) fun p5 H5 L5 _ => ?_
  rw [cut_from, cut_to] at L5
  have := hr.2.1
  refine rd_addL L5 (L5.get 2) (L5.get 0) (sz (m := 200) (by simp only [List.length_drop, List.length_take, List.length_map]; omega)) fun p6 H6 L6 _ => ?_
  refine hq hr (by omega) (by omega) p6 H6 ((L6.sub (List.Sublist.cons_cons _ (List.nil_sublist _))).to ?_)
  unfold turn
  rw [Int.toNat_natCast, List.map_append, List.map_drop, List.map_take]
end Tr
namespace Tr
open PySem PySem.Spec PyProof.Rows L2
def sp_law_good (K : PySem.W.Frag) : Sp := fun vs H Q _ => ∃ (a : Addr) (ns : List Int), vs = [.ref a] ∧ SqL K H a (ns.map V.int) ∧ newV H Q (.bl (goodB ns))
theorem ok_law_good {P : Program} {w : World} {K : PySem.W.Frag} {mg : Str → Option Value} {base : Heap} (T : Txt K mg) : Fn P w K mg base (L2.CX P w) 1 "_law_good" ["row"] (sp_law_good K) := by
  refine fnOf1 T.f_law_good sc_law_good (fun vs H Q E h => ?_) (fun f cdv A outer s H vs Q E hr h => ⟨_, (pss_cons (ps_set (i := 1) sc_law_good.nd rfl (Or.inl rfl) pe_int)
      (pss_cons (ps_for (passes_of rfl) rfl (kiList K (pv 0)) (pg_name (i := 2) sc_law_good.nd rfl (Or.inl rfl)) (pss_cons (ps_set (i := 1) sc_law_good.nd rfl (Or.inl rfl) (pe_op op_gAdd (pv 1) (pv 2)))
      (pss_one (ps_if (pt_cmpR op_gLe (pv 1) pe_int (nomark _)) (pss_one (ps_ret pe_bl)) pss_nil))))
      (pss_one (ps_ret pe_bl)))), ?_⟩)
  · obtain ⟨a, ns, rfl, _⟩ := h
    rfl
  obtain ⟨a, ns, rfl, hS, hq⟩ := h
  try dsimp only [L2.cxOf]
  walk_at "s"
  refine lp_ints (ns := ns) (fun i σ H' => ∃ y, σ = [some (.ref a), some (.int (ns.take i).sum), y] ∧ H' = H ∧ ∀ k, k < i → 1 ≤ (ns.take (k + 1)).sum) ⟨none, rfl, rfl, fun _ h => absurd h (Nat.not_lt_zero _)⟩ (fun i σ H' _ ⟨_, _, e, _⟩ => e ▸ hS) ?_ ?_
  · rintro i n σ H' hi ⟨y, rfl, rfl, hk⟩
    have h1 := (List.getElem?_eq_some_iff.mp hi).1
    walk_at "s"
    rw [← take_sum hi]
    refine ited (fun c => ?_) (fun c => ?_)
    · walk_at "s"
      rw [goodB_no h1 (by omega)] at hq
      exact hq H' (Led.start _)
    · walk_at "s"
      refine ⟨_, rfl, rfl, fun k hk' => ?_⟩
      by_cases e : k = i
      · subst e
        omega
      · exact hk k (by omega)
  · rintro σ H' ⟨y, rfl, rfl, hk⟩
    walk_at "s"
    rw [goodB_iff.mpr hk] at hq
    exact hq H' (Led.start _)
end Tr
namespace Tr
open PySem PySem.Spec PyProof.Rows L2
def sp_law_whole (K : PySem.W.Frag) : Sp := fun vs H Q _ => ∃ n : Int, vs = [.int n] ∧ Q (.bl true) H
theorem ok_law_whole {P : Program} {w : World} {K : PySem.W.Frag} {mg : Str → Option Value} {base : Heap} (T : Txt K mg) : Fn P w K mg base (L2.CX P w) 1 "_law_whole" ["found"] (sp_law_whole K) := by
  refine fnOf1 T.f_law_whole sc_law_whole (fun vs H Q E h => ?_) (fun f cdv A outer s H vs Q E hr h => ⟨_, (pss_one (ps_ret (pe_and (pe_callB (kIsi K) (by rfl) T.m_isinstance (by decide +kernel) (pa_cons (pv 0) (pa_cons (pe_bltn (v := .ty "int") rfl T.m_int (by decide +kernel) rfl) pa_nil))) (pe_one (pe_not (pe_callB (kIsi K) (by rfl) T.m_isinstance (by decide +kernel) (pa_cons (pv 0) (pa_cons (pe_bltn (v := .ty "bool") rfl T.m_bool (by decide +kernel) rfl) pa_nil)))))))), ?_⟩)
  · obtain ⟨n, rfl, _⟩ := h
    rfl
  obtain ⟨n, rfl, hq⟩ := h
  try dsimp only [L2.cxOf]
  walk_at "s"
  refine rd_isi (t := .type "int") (b := true) (.base (.int n)) (kit_ty (by decide +kernel)) ?_
  walk_at "s"
  refine rd_isi (t := .type "int") (b := false) (.base (.int n)) (kit_ty (by decide +kernel)) ?_
  walk_at "s"
  exact hq
end Tr
namespace Tr
open PySem PySem.Spec PyProof.Rows L2
def sp_law_starts_right (K : PySem.W.Frag) : Sp := fun vs H Q _ => ∃ (p q : Addr) (ks : List Int) (ns : List Int), vs = [.ref p, .ref q] ∧ H p = some (.lst (ks.map V.int)) ∧ SqL K H q (ns.map V.int) ∧ ns.length ≤ 100 ∧ (ks.length : Int) = max 0 ns.sum ∧ ks.Pairwise (· < ·) ∧
  (∀ k ∈ ks, ∃ j : Nat, k = j ∧ j < ns.length ∧ goodB (turn ns j) = true) ∧ newV H Q (.bl true)
theorem ok_law_starts_right {P : Program} {w : World} {K : PySem.W.Frag} {mg : Str → Option Value} {base : Heap} (T : Txt K mg) : Fn P w K mg base (L2.CX P w) 2 "_law_starts_right" ["found", "row"] (sp_law_starts_right K) := by
  refine fnOf1 T.f_law_starts_right sc_law_starts_right (fun vs H Q E h => ?_) (fun f cdv A outer s H vs Q E hr h => ⟨_, (pss_cons (ps_if (PW.pt (pw_or (pt_not (pt_val (pe_callB (kIsi K) (by rfl) T.m_isinstance (by decide +kernel) (pa_cons (pv 0) (pa_cons (pe_bltn (v := .ty "list") rfl T.m_list (by decide +kernel) rfl) pa_nil))))) (pw_or1 (pt_cmpR (kNe K hr.units) (pe_callB (kLen K) (by rfl) T.m_len (by decide +kernel) (pa_cons (pv 0) pa_nil)) (pe_callB (kMax K rfl) (by rfl) T.m_max (by decide +kernel) (pa_cons pe_int (pa_cons (pe_callB (kSum K rfl) (by rfl) T.m_sum (by decide +kernel) (pa_cons (pv 1) pa_nil)) pa_nil))) (nomark _))))) (pss_one (ps_ret pe_bl)) pss_nil)
      (pss_cons (ps_set (i := 2) sc_law_starts_right.nd rfl (Or.inl rfl) (pe_un op_gNeg pe_int))
      (pss_cons (ps_for (passes_of rfl) rfl (kiList K (pv 0)) (pg_name (i := 3) sc_law_starts_right.nd rfl (Or.inl rfl)) (pss_cons (ps_if (PW.pt (pw_or (pt_not (pt_val (pe_callF (ok_law_whole T) (hr.mono (by decide)) rfl passL (pa_cons (pv 3) pa_nil)))) (pw_or (pt_cmpR op_gLe (pv 3) (pv 2) (nomark _)) (pw_or1 (pt_cmpR op_gGe (pv 3) (pe_callB (kLen K) (by rfl) T.m_len (by decide +kernel) (pa_cons (pv 1) pa_nil)) (nomark _)))))) (pss_one (ps_ret pe_bl)) pss_nil)
      (pss_cons (ps_set (i := 2) sc_law_starts_right.nd rfl (Or.inl rfl) (pv 3))
      (pss_one (ps_if (pt_not (pt_val (pe_callF (ok_law_good T) (hr.mono (by decide)) rfl passL (pa_cons (pe_op op_gAdd (pe_slice (kSl K) (pv 1) (po_some (pv 3)) po_none) (pe_slice (kSl K) (pv 1) po_none (po_some (pv 3)))) pa_nil)))) (pss_one (ps_ret pe_bl)) pss_nil)))))
      (pss_one (ps_ret pe_bl))))), ?_⟩)
  · obtain ⟨p, q, ks, ns, rfl, _⟩ := h
    rfl
  obtain ⟨p, q, ks, ns, rfl, hp, hS, hl, hm, hpw, hk, hq⟩ := h
  have hP : SqL K H p (ks.map V.int) := SqL.of hp
  try dsimp only [L2.cxOf]
  walk_at "s"
  refine rd_isi (t := .type "list") (b := true) (.base (.lst hp)) (kit_ty (by decide +kernel)) ?_
  walk_at "s"
  refine rd_sum hS ?_
  walk_at "s"
  rw [List.length_map]
  refine itedN (fun c => absurd hm c) (fun _ => ?_)
  walk_at "s"
  refine lp_ints (ns := ks) (fun i σ H' => ∃ last y, σ = [some (.ref p), some (.ref q), some (.int last), y] ∧ Led H H' [] ∧ -1 ≤ last ∧ ∀ j k, i ≤ j → ks[j]? = some k → last < k) ⟨-1, none, rfl, Led.start H, by omega, fun j k _ hj => ?_⟩ (fun i σ H' _ ⟨_, _, _, L, _⟩ => L.seq hP) ?_ ?_
  · obtain ⟨m, rfl, _⟩ := hk k (mem_take hj)
    omega
  · rintro i n σ H1 hi ⟨last, y, rfl, L1, hlast, hlt⟩
    obtain ⟨j, rfl, hj, hg⟩ := hk n (mem_take hi)
    walk_at "s"
    refine ⟨j, rfl, ?_⟩
    walk_at "s"
    have h1 := hlt i _ (Nat.le_refl _) hi
    refine ited (fun c => by omega) (fun _ => ?_)
    walk_at "s"
    rw [List.length_map]
    refine ited (fun c => by omega) (fun _ => ?_)
    walk_at "s"
    refine rd_slL L1 (L1.seq hS) fun p2 H2 L2 _ => ?_
    walk_at "s"
    refine rd_slL L2 (L2.seq hS) fun p3 H3 L3 _ => ?_
    refine rd_addL L3 (L3.get 1) (L3.get 0) (sz (m := 200) (by
      have := cutV_length (ns.map V.int) (some (j : Int)) none
      have := cutV_length (ns.map V.int) none (some (j : Int))
      rw [List.length_map] at *
      omega)) fun p4 H4 L4 _ => ?_
    rw [turn_cut] at L4
    walk_at "s"
    refine ⟨p4, turn ns j, rfl, L4.sq 0, fun H5 M5 => ?_⟩
    rw [hg]
    walk_at "s"
    refine ⟨j, _, rfl, (L4.call M5).none, by omega, fun m k hm' hk' => ?_⟩
    have h2 := (List.getElem?_eq_some_iff.mp hi)
    have h3 := (List.getElem?_eq_some_iff.mp hk')
    obtain ⟨b2, e2⟩ := h2
    obtain ⟨b3, e3⟩ := h3
    have := List.pairwise_iff_getElem.mp hpw i m b2 b3 (by omega)
    rw [e2, e3] at this
    exact this
  · rintro σ H1 ⟨last, y, rfl, L1, _⟩
    walk_at "s"
    exact hq H1 L1
end Tr
namespace Tr
open PySem PySem.Spec PyProof.Rows L2
def sp_law (K : PySem.W.Frag) : Sp := fun vs H Q _ => ∃ (a : Addr) (ns : List Int), vs = [.ref a] ∧ SqL K H a (ns.map V.int) ∧ ns.length ≤ 63 ∧ ∀ H', Q (.bl true) H'
theorem starts_right {ns : List Int} (h : isRow ns) : (((startsOf ns).map fun k : Nat => (k : Int)).length : Int) = max 0 ns.sum ∧ ((startsOf ns).map fun k : Nat => (k : Int)).Pairwise (· < ·) ∧
    ∀ k ∈ (startsOf ns).map fun k : Nat => (k : Int), ∃ j : Nat, k = j ∧ j < ns.length ∧ goodB (turn ns j) = true := by
  refine ⟨?_, ?_, fun k hk => ?_⟩
  · rw [List.length_map]
    exact starts_many fun x hx => (h.2.2 x hx).1
  · rw [List.pairwise_map]
    exact (starts_pairwise _).imp fun h => by omega
  · obtain ⟨j, hj, rfl⟩ := List.mem_map.mp hk
    obtain ⟨h1, h2⟩ := mem_starts.mp hj
    exact ⟨j, rfl, h1, h2⟩
theorem map_ints (ks : List Nat) : (ks.map fun k : Nat => V.int k) = (ks.map fun k : Nat => (k : Int)).map V.int := by
  rw [List.map_map]
  rfl
theorem thrice_row {ns : List Int} (h : isRow ns) : isRow (ns.take 20 ++ ns.take 20 ++ ns.take 20) := by
  obtain ⟨h1, h2, h3⟩ := h
  refine ⟨?_, ?_, fun n hn => h3 n ?_⟩
  · simp only [List.length_append, List.length_take]
    omega
  · simp only [List.length_append, List.length_take]
    omega
  · simp only [List.mem_append] at hn
    rcases hn with (hn | hn) | hn <;> exact List.mem_of_mem_take hn
theorem ok_law {P : Program} {w : World} {K : PySem.W.Frag} {mg : Str → Option Value} {base : Heap} (T : Txt K mg) : Fn P w K mg base (L2.CX P w) 4 "law" ["script"] (sp_law K) := by
  refine fnOf1 T.f_law sc_law (fun vs H Q E h => ?_) (fun f cdv A outer s H vs Q E hr h => ⟨_, (pss_cons (ps_set (i := 1) sc_law.nd rfl (Or.inr rfl) (pe_callF (ok_law_row_by T) (hr.mono (by decide)) rfl passL (pa_cons (pv 0) (pa_cons pe_int (pa_cons (pe_callF (ok_law_nodes T) (hr.mono (by decide)) rfl passL (pa_cons (pv 0) pa_nil)) (pa_cons (pe_op op_gMod (pe_callF (ok_law_cell_at T) (hr.mono (by decide)) rfl passL (pa_cons (pv 0) (pa_cons pe_int pa_nil))) pe_int) pa_nil))))))
      (pss_cons (ps_if (pt_cmpR (kEq K hr.units) (pe_op op_gMod (pe_op op_gDiv (pe_callF (ok_law_cell_at T) (hr.mono (by decide)) rfl passL (pa_cons (pv 0) (pa_cons pe_int pa_nil))) pe_int) pe_int) pe_int (nomark _)) (pss_one (ps_set (i := 1) sc_law.nd rfl (Or.inr rfl) (pe_op op_gAdd (pe_op op_gAdd (pe_slice (kSl K) (pv 1) po_none (po_some pe_int)) (pe_slice (kSl K) (pv 1) po_none (po_some pe_int))) (pe_slice (kSl K) (pv 1) po_none (po_some pe_int))))) pss_nil)
      (pss_cons (ps_set (i := 2) sc_law.nd rfl (Or.inl rfl) (pe_callTy (kList K) (by rfl) T.m_list (by decide +kernel) (pa_cons (pv 1) pa_nil)))
      (pss_cons (ps_set (i := 3) sc_law.nd rfl (Or.inl rfl) (pe_callF (ok_starts T) (hr.mono (by decide)) rfl passL (pa_cons (pv 2) pa_nil)))
      (pss_cons (ps_if (PW.pt (pw_or (pt_cmpR (kNe K hr.units) (pv 2) (pv 1) (nomark _)) (pw_or1 (pt_not (pt_val (pe_callF (ok_law_starts_right T) (hr.mono (by decide)) rfl passL (pa_cons (pv 3) (pa_cons (pv 1) pa_nil)))))))) (pss_one (ps_ret pe_bl)) pss_nil)
      (pss_cons (ps_set (i := 4) sc_law.nd rfl (Or.inr rfl) (pe_op op_gMod (pe_callF (ok_law_cell_at T) (hr.mono (by decide)) rfl passL (pa_cons (pv 0) (pa_cons pe_int pa_nil))) (pe_callB (kLen K) (by rfl) T.m_len (by decide +kernel) (pa_cons (pv 1) pa_nil))))
      (pss_cons (ps_set (i := 5) sc_law.nd rfl (Or.inl rfl) (pe_callF (ok_starts T) (hr.mono (by decide)) rfl passL (pa_cons (pe_callF (ok_turned T) (hr.mono (by decide)) rfl passL (pa_cons (pe_callTy (kList K) (by rfl) T.m_list (by decide +kernel) (pa_cons (pv 1) pa_nil)) (pa_cons (pv 4) pa_nil))) pa_nil)))
      (pss_cons (ps_if (pt_not (pt_val (pe_callF (ok_law_starts_right T) (hr.mono (by decide)) rfl passL (pa_cons (pv 5) (pa_cons (pe_op op_gAdd (pe_slice (kSl K) (pv 1) (po_some (pv 4)) po_none) (pe_slice (kSl K) (pv 1) po_none (po_some (pv 4)))) pa_nil))))) (pss_one (ps_ret pe_bl)) pss_nil)
      (pss_one (ps_ret (pe_cmpR (kEq K hr.units) (pv 5) (pe_callB (kSorted K) (by rfl) T.m_sorted (by decide +kernel) (pa_cons (pe_lc (own := [("one", 6)]) (g := gName 6) rfl sc_law.nd (kiList K (pv 3)) (blkOk_by (N := n_law) (sc := defScope s_law) (by decide +kernel)) (fun _ _ _ _ _ => pg_name (i := 6) sc_law.nd rfl (Or.inl rfl)) (fun _ _ _ _ _ => pts_nil) (fun _ _ _ _ _ => (pe_op op_gMod (pe_op op_gSub (pv 6) (pv 4)) (pe_callB (kLen K) (by rfl) T.m_len (by decide +kernel) (pa_cons (pv 1) pa_nil))))) pa_nil)) (nomark _)))))))))))), ?_⟩)
  · obtain ⟨a, ns, rfl, _⟩ := h
    rfl
  obtain ⟨a, ns, rfl, hS, hl, hq⟩ := h
  try dsimp only [L2.cxOf]
  walk_at "s"
  refine ⟨a, ns, rfl, hS, ?_⟩
  walk_at "s"
  refine ⟨a, ns, 1, rfl, hS, ?_⟩
  walk_at "s"
  refine ⟨a, ns, 3, nodesOf ns, cell ns 1 % 4, rfl, hS, (nodesOf_le ns).2, fun pr H1 L1 => ?_⟩
  have hro : isRow (rowBy ns 3 (nodesOf ns) (cell ns 1 % 4)) := rowBy_row (nodesOf_le ns)
  generalize rowBy ns 3 (nodesOf ns) (cell ns 1 % 4) = row at L1 hro
  walk_at "s"
  refine ⟨a, ns, 1, rfl, L1.seq hS, ?_⟩
  walk_at "s"
  have e20 : (20 : Int) = ((20 : Nat) : Int) := rfl
  refine if_two (fun σ H' => ∃ pr row, σ = [some (.ref a), some (.ref pr), none, none, none, none, none] ∧ Led H H' [(pr, .lst (row.map V.int))] ∧ isRow row) ?_ ?_ ?_
  · rintro σ H2 ⟨pr, row, rfl, L2, hro⟩
    clear L1
    obtain ⟨hr1, hr2, hr3⟩ := id hro
    obtain ⟨sr1, sr2, sr3⟩ := starts_right hro
    walk_at "s"
    refine rd_list L2 (L2.sq 0) fun ph H3 L3 _ => ?_
    walk_at "s"
    refine ⟨ph, row, rfl, L3.sq 0, fun _ pf H4 M4 => ?_, fun h => absurd hro h⟩
    rw [map_ints] at M4
    have L4 := L3.call M4
    walk_at "s"
    refine rd_neLs (L4.sq 1) (L4.sq 2) ?_
    walk_at "s"
    refine ⟨pf, pr, _, row, rfl, L4.get 0, L4.sq 2, by omega, sr1, sr2, sr3, fun H5 M5 => ?_⟩
    have L5 := L4.call M5
    walk_at "s"
    refine ⟨a, ns, 2, rfl, L5.seq hS, ?_⟩
    walk_at "s"
    rw [List.length_map]
    refine rd_mod (by omega) ?_
    have hk : ∃ j : Nat, cell ns 2 % row.length = j ∧ j < row.length := by
      have h1 := Int.emod_nonneg (cell ns 2) (b := row.length) (by omega)
      have h2 := Int.emod_lt_of_pos (cell ns 2) (b := row.length) (by omega)
      exact ⟨(cell ns 2 % row.length).toNat, by rw [Int.toNat_of_nonneg h1], by omega⟩
    obtain ⟨j, ej, hj⟩ := hk
    rw [ej]
    walk_at "s"
    refine rd_list L5 (L5.sq 2) fun pl H6 L6 _ => ?_
    walk_at "s"
    refine ⟨pl, row, j, rfl, L6.sq 0, fun _ _ _ pt H7 M7 => ?_, fun h => absurd hro h, fun _ h => by omega⟩
    rw [Int.toNat_natCast] at M7
    have L7 := L6.call M7
    have hrt : isRow (turn row j) := turn_row hro
    walk_at "s"
    refine ⟨pt, turn row j, rfl, L7.sq 0, fun _ pb H8 M8 => ?_, fun h => absurd hrt h⟩
    rw [map_ints] at M8
    have L8 := L7.call M8
    walk_at "s"
    refine rd_slL L8 (L8.sq 5) fun p9 H9 L9 _ => ?_
    walk_at "s"
    refine rd_slL L9 (L9.sq 6) fun p10 H10 L10 _ => ?_
    refine rd_addL L10 (L10.get 1) (L10.get 0) (sz (m := 200) (by
      have := cutV_length (row.map V.int) (some (j : Int)) none
      have := cutV_length (row.map V.int) none (some (j : Int))
      rw [List.length_map] at *
      omega)) fun p11 H11 L11 _ => ?_
    rw [turn_cut] at L11
    obtain ⟨st1, st2, st3⟩ := starts_right hrt
    walk_at "s"
    refine ⟨pb, p11, _, turn row j, rfl, L11.get 3, L11.sq 0, by rw [turn_len]; omega, st1, st2, st3, fun H12 M12 => ?_⟩
    have L12 := L11.call M12
    walk_at "s"
    refine lc_mapI (fun one => .int ((one - j) % row.length)) L12 (fun H1 _ _ l1 L => by
      have L' : Led H H1 _ := L.drop1
      exact L'.sq 6) ?_ ?_
    · intro i n D H13 hi L13 t13
      walk_at "s"
      refine ⟨rfl, ?_⟩
      walk_at "s"
      refine rd_lenL (L13.sq 9) ?_
      walk_at "s"
      rw [List.length_map]
      refine rd_mod (by omega) ?_
      refine rd_mapIEnd [] L13 t13 hi ?_ rfl
      have := (List.getElem?_eq_some_iff.mp hi).1
      have h2 := List.length_filter_le (fun k => goodB (turn row k)) (List.range row.length)
      rw [List.length_map] at this
      unfold startsOf at this
      rw [List.length_range] at h2
      omega
    · intro D H13 L13 _
      have e13 : ((startsOf row).map fun k : Nat => (k : Int)).map (fun one => V.int ((one - j) % row.length)) = ((startsOf row).map fun one : Nat => ((one : Int) - j) % row.length).map V.int := by
        rw [List.map_map, List.map_map]
        rfl
      rw [e13] at L13
      walk_at "s"
      refine rd_sorted L13 (L13.sq 0) fun ms p14 H14 hp hs L14 _ => ?_
      have es := starts_turn hj hp hs
      refine rd_eqL (L14.sq 5) (L14.sq 0) ?_
      rw [es, decide_eq_true rfl]
      exact hq _
  · intro nx' hn c
    obtain ⟨hr1, hr2, hr3⟩ := id hro
    walk_at "s"
    rw [e20]
    refine rd_slL L1 (L1.sq 0) fun p2 H2 L2 _ => ?_
    walk_at "s"
    refine rd_slL L2 (L2.sq 1) fun p3 H3 L3 _ => ?_
    rw [cut_to] at L3
    refine rd_addL L3 (L3.get 1) (L3.get 0) (sz (m := 200) (by
      simp only [List.length_take, List.length_map]
      omega)) fun p4 H4 L4 _ => ?_
    walk_at "s"
    refine rd_slL L4 (L4.sq 3) fun p5 H5 L5 _ => ?_
    rw [cut_to] at L5
    refine rd_addL L5 (L5.get 1) (L5.get 0) (sz (m := 200) (by
      simp only [List.length_append, List.length_take, List.length_map]
      omega)) fun p6 H6 L6 _ => ?_
    walk_at "s"
    refine hn _ _ ⟨p6, _, rfl, L6.only.to ?_, thrice_row hro⟩
    rw [List.map_append, List.map_append, List.map_take]
  · intro nx' hn c
    walk_at "s"
    exact hn _ _ ⟨pr, row, rfl, L1, hro⟩
end Tr
/-! The head: the facts of the top, read by a Hook of my own. -/
namespace Tr
open PySem PySem.Spec PyProof.Rows L2
def excB (K : PySem.W.Frag) (x : Str) : Bool :=
  He.eqO (PySem.W.findIn K (.ref (He.ga K x)) "__getattribute__") (some (some (.builtin "BaseException.__getattribute__"))) &&
  (He.eqO (PySem.W.findIn K (.ref (He.ga K x)) "__getattr__") (some none) &&
  (decide (PySem.W.subIn K (.ref (He.ga K x)) (.type "BaseException") = some true) &&
  (PySem.W.hasDictIn K (He.ga K x) &&
  (He.eqO (PySem.W.findIn K (.ref (He.ga K x)) "__class__") (some (some (.builtin "object.__class__"))) &&
  (He.eqO (PySem.W.specialIn K (.builtin "object.__class__") "__get__") (some (some (.builtin "getset_descriptor.__get__"))) &&
  (decide (PySem.W.takesIn K (.builtin "object.__class__") = some true) &&
  decide (PySem.W.mroIn K (He.ga K x) (.type "object") = some true)))))))
theorem excB_ok {K : PySem.W.Frag} {x : Str} (h : excB K x = true) : ExcC K (He.ga K x) := by
  unfold excB at h
  obtain ⟨h1, h⟩ := He.ba h
  obtain ⟨h2, h⟩ := He.ba h
  obtain ⟨h3, h⟩ := He.ba h
  obtain ⟨h4, h⟩ := He.ba h
  obtain ⟨h5, h⟩ := He.ba h
  obtain ⟨h6, h⟩ := He.ba h
  obtain ⟨h7, h8⟩ := He.ba h
  exact ⟨He.eqO_ok h1, He.eqO_ok h2, of_decide_eq_true h3, h4, He.eqO_ok h5, He.eqO_ok h6, of_decide_eq_true h7, of_decide_eq_true h8⟩
def kitO (K : PySem.W.Frag) (x y : Str) (b : Bool) : Bool := decide (PySem.W.kitOne K (.ref (He.ga K x)) (.ref (He.ga K y)) = some b)
def kitT (K : PySem.W.Frag) (x : Str) (n : String) : Bool := decide (PySem.W.kitOne K (.ref (He.ga K x)) (.type n) = some true)
def hookZ (n : Nat) (fa : List He.Fa) (fn : List He.DefD) (ex : PySem.W.Frag → Bool) : PySem.W.Hook where
  α := He.AlD × Bool
  obs := fun s => (He.obsD fa fn (He.frG s.heap.get? (He.asD s.heap.get? n)), ex (He.frG s.heap.get? (He.asD s.heap.get? n)))
  val := fun _ => (He.valD fn, true)
  says := fun _ h => ∃ K : PySem.W.Frag, K.In h ∧ He.SaysD fa fn K ∧ ex K = true
  of := fun _ _ e => ⟨_, He.frG_in, congrArg (fun z : He.AlD × Bool => z.1) e, congrArg (fun z : He.AlD × Bool => z.2) e⟩
  keeps := fun _ _ _ ⟨K, hK, c⟩ k => ⟨K, PySem.W.Frag.In.keeps hK k, c⟩
def obZ (n : Nat) (fa : List He.Fa) (fn : List He.DefD) (ex : PySem.W.Frag → Bool) (g : Addr → Option Obj) : He.AlD × Bool := (He.obsD fa fn (He.frG g (He.asD g n)), ex (He.frG g (He.asD g n)))
theorem obZ_eq {n : Nat} {fa : List He.Fa} {fn : List He.DefD} {ex : PySem.W.Frag → Bool} {g : Addr → Option Obj} {s : Shared} (h : ∀ a, g a = s.heap.get? a) : obZ n fa fn ex g = (hookZ n fa fn ex).obs s := by
  have e : g = s.heap.get? := funext h
  rw [e] <;> rfl
theorem okZero {P : Program} {w : World} {K : PySem.W.Frag} {mg : Str → Option Value} {base : Heap} {k : Nat} {f : Addr} {fd : FuncData} {ps : List Str} {sp : Sp} (F : FnOk P w K mg base (L2.CX P w) k f fd ps sp) (hs : ∀ vs H Q E, sp vs H Q E → sp vs H Q E0) :
    FnOk P w K mg base CX0 k f fd ps sp := by
  refine ⟨F.len, fun A outer s H args us vs Q E hr he hb hv h => codeAny_mono (F.run A outer s H args us vs Q E0 hr he hb hv (hs _ _ _ _ h)) fun r s' q => ?_⟩
  cases r with
  | ok fl => cases fl <;> exact q
  | error e =>
    obtain ⟨_, _, _, _, _, _, _, _, _, _, _, _, z⟩ := q
    exact z
section
variable {K : PySem.W.Frag} {h : Heap} {mg : Str → Option Value}
theorem exT_of (X : K.In h) (G : h.Ns mainGlobals mg) {x : Str} (g : (He.Fa.glo x).ok K = true) (e : (He.Fa.exc x).ok K = true) : ExcT K mg x := by
  obtain ⟨h1, h2, h3, h4⟩ := He.exc_ok e
  exact ⟨He.glo_ok X G g, h1, h2, h3, h4⟩
theorem txt1_of (X : K.In h) (G : h.Ns mainGlobals mg) {x : Str} {st : Stmt} {ps : List Str} (F : ∃ fd, FunD K x x (defArgs st) (defBody st) (defScope st) [] [] (He.ga K x) fd) (g : (He.Fa.glo x).ok K = true)
    (hb : ∀ (kV doc pm : Value) (an : Option Addr) (cdv ct : Value) (us : List Value), us.length = ps.length → bindArgs (PySem.W.fnOf x x (defArgs st) (defBody st) (defScope st) .none kV doc pm an cdv ct) ⟨us, []⟩ = pure (ps.zip us)) : Txt1 K mg x st ps := by
  obtain ⟨fd, F⟩ := F
  exact ⟨⟨fd, F, F.bindsN hb⟩, He.glo_ok X G g⟩
end
end Tr
namespace Tr
open PySem PySem.Spec PyProof.Rows L2
def fnZ_0 : List He.DefD := [⟨("see_row", none), "see_row", "see_row", defArgs s_see_row, defBody s_see_row, defScope s_see_row, [], []⟩, ⟨("turned", none), "turned", "turned", defArgs s_turned, defBody s_turned, defScope s_turned, [], []⟩, ⟨("sums_of", none), "sums_of", "sums_of", defArgs s_sums_of, defBody s_sums_of, defScope s_sums_of, [], []⟩, ⟨("is_good", none), "is_good", "is_good", defArgs s_is_good, defBody s_is_good, defScope s_is_good, [], []⟩, ⟨("starts", none), "starts", "starts", defArgs s_starts, defBody s_starts, defScope s_starts, [], []⟩, ⟨("_law_cell_at", none), "_law_cell_at", "_law_cell_at", defArgs s_law_cell_at, defBody s_law_cell_at, defScope s_law_cell_at, [], []⟩, ⟨("_law_whole", none), "_law_whole", "_law_whole", defArgs s_law_whole, defBody s_law_whole, defScope s_law_whole, [], []⟩, ⟨("_law_row_by", none), "_law_row_by", "_law_row_by", defArgs s_law_row_by, defBody s_law_row_by, defScope s_law_row_by, [], []⟩, ⟨("_law_nodes", none), "_law_nodes", "_law_nodes", defArgs s_law_nodes, defBody s_law_nodes, defScope s_law_nodes, [], []⟩, ⟨("_law_good", none), "_law_good", "_law_good", defArgs s_law_good, defBody s_law_good, defScope s_law_good, [], []⟩, ⟨("_law_starts_right", none), "_law_starts_right", "_law_starts_right", defArgs s_law_starts_right, defBody s_law_starts_right, defScope s_law_starts_right, [], []⟩, ⟨("law", none), "law", "law", defArgs s_law, defBody s_law, defScope s_law, [], []⟩]
def fnZ : List He.DefD := fnZ_0
def faZ_0 : List He.Fa := [.glo "see_row", .glo "turned", .glo "sums_of", .glo "is_good", .glo "starts", .glo "_law_cell_at", .glo "_law_whole", .glo "_law_row_by", .glo "_law_nodes", .glo "_law_good", .glo "_law_starts_right", .glo "law", .free "bool", .free "int", .free "isinstance", .free "len"]
def faZ_1 : List He.Fa := [.free "list", .free "max", .free "range", .free "sorted", .free "sum", .int "MOST" 60, .glo "TurnError", .glo "BadRow", .glo "NoTurn", .exc "TurnError", .exc "BadRow", .exc "NoTurn"]
def faZ : List He.Fa := faZ_0 ++ faZ_1
def exL (K : PySem.W.Frag) : List Bool := []
def exZ (K : PySem.W.Frag) : Bool := (exL K).all id
abbrev RZ : PySem.W.OpenRow := PySem.W.OpenLaw.row PySem.Challenge.rw_turnrow_k03_whole_just_so_many_starts
abbrev hkZ : PySem.W.Hook := hookZ 5 faZ fnZ exZ
def obsZ (s : PySem.W.SharedT) : He.AlD × Bool := obZ 5 faZ fnZ exZ (HandSHeadRun.getT s)
theorem obsZ_eq (s : PySem.W.SharedT) : obsZ s = hkZ.obs s.abs := obZ_eq (HandSHeadRun.getT_eq s)
def looseZ_0 : List Str := ["see_row", "turned", "sums_of", "is_good", "starts", "_law_cell_at", "_law_whole", "_law_row_by", "_law_nodes", "_law_good", "_law_starts_right", "TurnError", "BadRow", "NoTurn", "MOST"]
def looseZ : List Str := looseZ_0
theorem runZ (w : World) : HandSHeadRun.RunEq RZ (PySem.W.view RZ.prog [18]) hkZ obsZ 6000 looseZ w := by
  intro os
  kernel_rfl
theorem factsZ {P : Program} {w : World} {K : PySem.W.Frag} {h : Heap} {mg : Str → Option Value} {f : Addr} (X : K.In h) (G : h.Ns mainGlobals mg) (hfa : mg ("law" : Str) = some (.ref f)) (c : He.SaysD faZ fnZ K) (e : exZ K = true) :
    ∃ fd : FuncData, (∀ (s : Shared) (v : Value), BindsTo s fd ⟨[v], []⟩ [("script", v)]) ∧ ∀ base : Heap, K.In base → base.Ns mainGlobals mg → FnOk P w K mg base CX0 4 f fd ["script"] (sp_law K) := by
  have el : ∀ i b, (exL K)[i]? = some b → b = true := fun i b hb => List.all_eq_true.mp e b (List.mem_of_getElem? hb)
  have T : Txt K mg := {
    f_see_row := txt1_of X G (c.def_ 0 rfl) (c.fact 0 rfl) (fun _ _ _ _ _ _ us hl => match us, hl with | [_], _ => rfl)
    f_turned := txt1_of X G (c.def_ 1 rfl) (c.fact 1 rfl) (fun _ _ _ _ _ _ us hl => match us, hl with | [_, _], _ => rfl)
    f_sums_of := txt1_of X G (c.def_ 2 rfl) (c.fact 2 rfl) (fun _ _ _ _ _ _ us hl => match us, hl with | [_], _ => rfl)
    f_is_good := txt1_of X G (c.def_ 3 rfl) (c.fact 3 rfl) (fun _ _ _ _ _ _ us hl => match us, hl with | [_], _ => rfl)
    f_starts := txt1_of X G (c.def_ 4 rfl) (c.fact 4 rfl) (fun _ _ _ _ _ _ us hl => match us, hl with | [_], _ => rfl)
    f_law_cell_at := txt1_of X G (c.def_ 5 rfl) (c.fact 5 rfl) (fun _ _ _ _ _ _ us hl => match us, hl with | [_, _], _ => rfl)
    f_law_whole := txt1_of X G (c.def_ 6 rfl) (c.fact 6 rfl) (fun _ _ _ _ _ _ us hl => match us, hl with | [_], _ => rfl)
    f_law_row_by := txt1_of X G (c.def_ 7 rfl) (c.fact 7 rfl) (fun _ _ _ _ _ _ us hl => match us, hl with | [_, _, _, _], _ => rfl)
    f_law_nodes := txt1_of X G (c.def_ 8 rfl) (c.fact 8 rfl) (fun _ _ _ _ _ _ us hl => match us, hl with | [_], _ => rfl)
    f_law_good := txt1_of X G (c.def_ 9 rfl) (c.fact 9 rfl) (fun _ _ _ _ _ _ us hl => match us, hl with | [_], _ => rfl)
    f_law_starts_right := txt1_of X G (c.def_ 10 rfl) (c.fact 10 rfl) (fun _ _ _ _ _ _ us hl => match us, hl with | [_, _], _ => rfl)
    f_law := txt1_of X G (c.def_ 11 rfl) (c.fact 11 rfl) (fun _ _ _ _ _ _ us hl => match us, hl with | [_], _ => rfl)
    m_bool := He.free_ok X G (c.fact 12 rfl)
    m_int := He.free_ok X G (c.fact 13 rfl)
    m_isinstance := He.free_ok X G (c.fact 14 rfl)
    m_len := He.free_ok X G (c.fact 15 rfl)
    m_list := He.free_ok X G (c.fact 16 rfl)
    m_max := He.free_ok X G (c.fact 17 rfl)
    m_range := He.free_ok X G (c.fact 18 rfl)
    m_sorted := He.free_ok X G (c.fact 19 rfl)
    m_sum := He.free_ok X G (c.fact 20 rfl)
    c_MOST := He.int_ok X G (c.fact 21 rfl)
    e_TurnError := exT_of X G (c.fact 22 rfl) (c.fact 25 rfl)
    e_BadRow := exT_of X G (c.fact 23 rfl) (c.fact 26 rfl)
    e_NoTurn := exT_of X G (c.fact 24 rfl) (c.fact 27 rfl)
  }
  obtain ⟨fd, F⟩ := c.def_ 11 rfl
  have e2 := hfa.symm.trans (He.glo_ok X G (c.fact 11 rfl))
  cases e2
  have b := FunD.bindsA (ps := ["script"]) F fun _ _ _ _ _ _ us hl => match us, hl with | [_], _ => rfl
  refine ⟨fd, fun s v => b s [v] rfl, fun base _ _ => ?_⟩
  obtain ⟨⟨fd2, F2, _, hf⟩, _, _⟩ := ok_law (P := P) (w := w) (base := base) T
  obtain ⟨oc, od, _, _, _, _, _, _, _, osl, _, lk, _⟩ := id F.ex
  have e3 : fd2 = fd := hf.same ⟨oc, od, osl, lk⟩
  subst e3
  exact okZero F2 fun vs H Q E h => h
end Tr
open PySem PySem.W PySem.Calls PyProof.Rows
theorem PySem.Challenge.cw_turnrow_k03_whole_just_so_many_starts_holds : PySem.Challenge.rw_turnrow_k03_whole_just_so_many_starts.Holds := by
  w_on; o_law
  refine HandSHeadRun.head_any (r := OpenLaw.row PySem.Challenge.rw_turnrow_k03_whole_just_so_many_starts) (q := view (OpenLaw.row PySem.Challenge.rw_turnrow_k03_whole_just_so_many_starts).prog [18]) (H := Tr.hkZ) (ob := Tr.obsZ) (M := 6000) (loose := Tr.looseZ) (d := HandSHeadRun.topDef (OpenLaw.row PySem.Challenge.rw_turnrow_k03_whole_just_so_many_starts).prog 18) (kwd := []) Tr.obsZ_eq
    (by kernel_rfl) (fun s => by kernel_rfl) Tr.runZ (by kernel_rfl) (by kernel_rfl) (by kernel_rfl) (by rfl) (by first | assumption | decide +kernel) (by decide +kernel) ⟨rfl, rfl, rfl, rfl, rfl, by decide +kernel⟩ ?hw ?hc
  case hw => w_witness2
  case hc =>
    refine L2.walk_ofE (l := PySem.Challenge.rw_turnrow_k03_whole_just_so_many_starts) (n := 63) (k := 4) (x := "script") (CX := L2.CX0) rfl (by decide) (by kernel_rfl) ⟨rfl, by decide, by decide⟩ ?F (fun _ _ _ _ z => z)
    intro w mg fa h Y G hmg0
    obtain ⟨K, KX, c, e⟩ := Y
    have hmg : mg ("law" : PySem.Str) = some (.ref fa) := by
      have e : (HandSHeadRun.topDef (OpenLaw.row PySem.Challenge.rw_turnrow_k03_whole_just_so_many_starts).prog 18).name = ("law" : PySem.Str) := by kernel_rfl
      rw [← e]
      exact hmg0
    obtain ⟨fd, hb, hF⟩ := Tr.factsZ (P := (PySem.Challenge.rw_turnrow_k03_whole_just_so_many_starts).prog) (w := w) KX G hmg c e
    exact ⟨K, fd, Tr.sp_law K, KX, hb, fun H a ns hl _ hS => ⟨a, ns, rfl, hS, hl, fun _ => rfl⟩, hF⟩
#print axioms PySem.Challenge.cw_turnrow_k03_whole_just_so_many_starts_holds
