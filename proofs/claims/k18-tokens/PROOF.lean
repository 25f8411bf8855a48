import PyProof.Rows.All
import Wide.All
import OpenK.AllK
import Wide.FinOn
import HandS.ForMost
import HandS.Exc
import HandS.ExcOwn
import HandS.TryOnly
import HandS.ExcInit
import HandS.TupAny
import HandS.Flow
import HandS.Codes
import HandS.IsInst
import HandS.RaiseMore
import HandS.Defaults
import KE.KExcSuper
import PyProof.AutoSeq1
import PyProof.StrOps2
import KE.KStateDown
import Lean
import HandS.Ends
import HandS.More
import HandS.Words
import HandS.WordsExc
import HandS.Head0
import HandS.Head1
import HandS.Head2
import HandS.HeadHook1
import HandS.HeadHook2
import HandS.ExcField
import HandS.Steps
import PyProof.ReprLen
import HandS.HeadEnd
import PySem.Challenge.RW_flowform_k18_whole_only_tokens_matter
set_option Elab.async false
set_option linter.all false
set_option maxRecDepth 100000
set_option maxHeartbeats 0
/-! S0: calls with a room of our own (one unit a frame), which also knows that no repr is under way. -/
namespace K18

open PySem PySem.Spec L2
open PyProof.Rows hiding St

/-- room for k calls, one in another, no guard on the stack -/
structure RoomS (k : Nat) (A : Around) : Prop where
  hd : A.handled = none
  dp : A.depth + k + 60 < recursionLimit
  un : A.units + 4 * k + 400 < cLine
  gd : A.guards = some []
theorem RoomS.mono {j k : Nat} {A : Around} (r : RoomS k A) (h : j ≤ k) : RoomS j A := ⟨r.hd, by have := r.dp; omega, by have := r.un; omega, r.gd⟩
theorem RoomS.deeper {k : Nat} {A : Around} (r : RoomS (k + 1) A) (env : Env) : RoomS k (A.deeper env) :=
  ⟨r.hd, by have := r.dp; show A.depth + 1 + k + 60 < _; omega, by have := r.un; show A.units + 3 + 4 * k + 400 < _; omega, r.gd⟩
theorem RoomS.room {k : Nat} {A : Around} (r : RoomS k A) : Room 10 A := ⟨r.hd, by have := r.dp; omega, by have := r.un; omega⟩
theorem RoomS.hu {k : Nat} {A : Around} (r : RoomS k A) : A.units + 64 < cLine := by have := r.un; omega

/-- as FnOk, over this room; what leaves it lies as CX says -/
structure FnS (P : Program) (w : World) (K : PySem.W.Frag) (mg : Str → Option Value) (base : Heap) (k : Nat) (f : Addr) (fd : FuncData) (ps : List Str) (sp : Sp) : Prop where
  len : ∀ vs H Q E, sp vs H Q E → vs.length = ps.length
  run : ∀ (A : Around) (outer : List Env) (s : Shared) (H : Hp) (args : Args) (us : List Value) (vs : List V) (Q : VK) (E : XK), RoomS k A → Env0 P w K mg base A outer s H → BindsTo s fd args (ps.zip us) → Vals vs us → sp vs H Q E →
    codeAny (model P w) A (.call (.ref f) args) (CR (L2.CX P w) outer P w H s Q E) s
theorem FnS.of {P : Program} {w : World} {K : PySem.W.Frag} {mg : Str → Option Value} {base : Heap} {k j : Nat} {f : Addr} {fd : FuncData} {ps : List Str} {sp : Sp} (F : FnOk P w K mg base (L2.CX P w) j f fd ps sp) (h : j ≤ 10) : FnS P w K mg base k f fd ps sp :=
  ⟨F.len, fun A outer s H args us vs Q E hr => F.run A outer s H args us vs Q E (hr.room.mono h)⟩

/-- a def of the module by its name; a method of the class at C -/
structure CalS (P : Program) (w : World) (K : PySem.W.Frag) (mg : Str → Option Value) (base : Heap) (k : Nat) (x : Str) (sp : Sp) : Prop where
  ex : ∃ (f : Addr) (fd : FuncData) (ps : List Str), FnS P w K mg base k f fd ps sp ∧ mg x = some (.ref f) ∧ PySem.W.keepIn K (.ref f) = true ∧ Binds K fd ps []
structure MetS (P : Program) (w : World) (K : PySem.W.Frag) (mg : Str → Option Value) (base : Heap) (k : Nat) (C : Addr) (m : Str) (sp : Sp) : Prop where
  ex : ∃ (f : Addr) (fd : FuncData) (ps : List Str), FnS P w K mg base k f fd ps sp ∧ Cls K C ∧ Meth K C m f ∧ Binds K fd ps []

/-- f(..), o.m(..) with the wish E -/
def tCal (sp : Sp) (E : XK) (t : TA) : TE := fun σ H Q => t σ H fun vs H1 => sp vs H1 Q E
def tMet (C : Addr) (m : Str) (sp : Sp) (E : XK) (ta : TE) (t : TA) : TE := fun σ H Q => ta σ H fun x H1 => ∃ a dx fs, x = .ref a ∧ H1 a = some (.ins C dx fs) ∧ fs.lookup m = none ∧ t σ H1 fun vs H2 => sp (x :: vs) H2 Q E

section
variable {X : Cx} {k j : Nat} {f C : Addr} {fd : FuncData} {ps : List Str} {sp : Sp} {E : XK} {x m : Str} {p pos apos : Pos} {e o : Expr} {es : List Expr} {ta : TE} {t : TA}
theorem run_s {pins : List (Addr × Obj)} {σ : St} {H : Hp} {s : Shared} {Q : VK} {us : List Value} {vs : List V} (F : FnS X.prog X.w X.K X.mg X.base k f fd ps sp) (hr : RoomS k X.A) (hb : Binds X.K fd ps []) (hx : Passes (L2.CX X.prog X.w) X E)
    (I : Inv X pins σ H s) (r : Vals vs us) (h : sp vs H Q E) : wpAny (model X.prog X.w) X.A (call (.ref f) us) (EP X pins σ Q) X.xe s := by
  have hl : us.length = ps.length := r.length.symm.trans (F.len _ _ _ _ h)
  have b := hb s us I.kIn (by simpa using hl)
  simp only [List.append_nil] at b
  refine wpAny_call (codeAny_mono (F.run X.A X.stack s H ⟨us, []⟩ us vs Q E hr I.env0 b r h) fun r s' hq => ?_)
  match r, hq with
  | .error e, hq => exact hx pins σ H s e s' I hq
  | .ok (.ret u), hq => exact I.after hq
theorem pc (c : CalS X.prog X.w X.K X.mg X.base k x sp) (hr : RoomS j X.A) (hk : k ≤ j) (hx : Passes (L2.CX X.prog X.w) X E) (hg : Gl X x) (ha : PA X (e :: es) t)
    (hdb : (x == ("__debug__" : Str)) = false := by decide) (he : starEach (e :: es) X.env = (false, eval e X.env) :: starEach es X.env := by rfl) (hpl : (backTo pos (starEach es X.env)).any (·.1) = false := by rfl) :
    PE X (.Call (.Name x p) (e :: es) [] pos) (tCal sp E t) := by
  obtain ⟨f, fd, ps, F, hm, kp, b⟩ := c.ex
  exact ⟨fun pins s σ H Q I h => wpAny_Call_Name_kw (ld_glob I hg hm (PySem.W.callWith_K (h₀ := X.base) I.ok.mod.kin kp
    (thn (ha.run pos pins s σ H _ I h) fun us s1 ⟨vs, H1, I1, r, q⟩ => ⟨I1.kIn, run_s F (hr.mono hk) b hx I1 r q⟩) he hpl) hdb)⟩
theorem pm {pl : Sem Bool} (c : MetS X.prog X.w X.K X.mg X.base k C m sp) (hr : RoomS j X.A) (hk : k ≤ j) (hx : Passes (L2.CX X.prog X.w) X E) (hp : PE X o ta) (ha : PA X (e :: es) t)
    (hst : starEach (e :: es) X.env = (false, eval e X.env) :: starEach es X.env := by rfl) (hpl : (backTo pos (starEach es X.env)).any (·.1) = false := by rfl)
    (ht : eval (.Call (.Attribute o m apos) (e :: es) [] pos) X.env = (do
      let ov ← eval o X.env
      standAt apos.atName
      let (f, first) ← holding [ov] (getMethod ov m pl)
      callWith pos f first (backTo pos (starEach (e :: es) X.env)) (backToKw pos (keywordEach [] X.env))) := by rfl) :
    PE X (.Call (.Attribute o m apos) (e :: es) [] pos) (tMet C m sp E ta t) := by
  obtain ⟨f, fd, ps, F, cl, hm, b⟩ := c.ex
  refine ⟨fun pins s σ H Q I h => PySem.W.methodCall_KW (pl := pl) (thn (hp.run pins s σ H _ I h) fun u s1 ⟨x, H1, I1, rx, a, dx, fs, ex, ea, l, q⟩ => ?_) ht⟩
  subst ex
  cases rx
  exact getmeth_ok I1 ea cl hm l (PySem.W.callWith_K (first := [.ref a]) (h₀ := X.base) I.ok.mod.kin hm.kp
    (thn (ha.run pos pins s1 σ H1 _ I1 q) fun us s2 ⟨vs, H2, I2, r, q2⟩ => ⟨I2.kIn, run_s (us := .ref a :: us) (vs := .ref a :: vs) F (hr.mono hk) b hx I2 (.cons rfl r) q2⟩) hst hpl)
theorem pm0 {pl : Sem Bool} (c : MetS X.prog X.w X.K X.mg X.base k C m sp) (hr : RoomS j X.A) (hk : k ≤ j) (hx : Passes (L2.CX X.prog X.w) X E) (hp : PE X o ta)
    (ht : eval (.Call (.Attribute o m apos) [] [] pos) X.env = (do
      let ov ← eval o X.env
      standAt apos.atName
      let (f, first) ← holding [ov] (getMethod ov m pl)
      callWith pos f first (backTo pos (starEach [] X.env)) (backToKw pos (keywordEach [] X.env))) := by rfl) :
    PE X (.Call (.Attribute o m apos) [] [] pos) (tMet C m sp E ta tNil) := by
  obtain ⟨f, fd, ps, F, cl, hm, b⟩ := c.ex
  refine ⟨fun pins s σ H Q I h => PySem.W.methodCall_KW (pl := pl) (thn (hp.run pins s σ H _ I h) fun u s1 ⟨x, H1, I1, rx, a, dx, fs, ex, ea, l, q⟩ => ?_) ht⟩
  subst ex
  cases rx
  exact getmeth_ok I1 ea cl hm l (PySem.W.callWith_K0 (first := [.ref a]) I1.kIn hm.kp (run_s (us := [.ref a]) (vs := [.ref a]) F (hr.mono hk) b hx I1 (.cons rfl .nil) q))
end

/-- the context of a body, with its wish E -/
abbrev cxS (P : Program) (w : World) (K : PySem.W.Frag) (mg : Str → Option Value) (base : Heap) (N : List Str) (qual : Str) (scope : Scope) (f : Addr) (cd : Value) (A : Around) (outer : List Env) (s : Shared) (H : Hp) (E : XK) : Cx := cxOf (L2.CX P w) P w K mg base N qual scope f cd A outer s H E
section
variable {P : Program} {w : World} {K : PySem.W.Frag} {mg : Str → Option Value} {base : Heap}
theorem takesE {N : List Str} {qual : Str} {scope : Scope} {f : Addr} {cd : Value} {A : Around} {outer : List Env} {s : Shared} {H : Hp} {E : XK} : Takes (cxS P w K mg base N qual scope f cd A outer s H E) (fun cls d _ H => E cls d H) := takes_of rfl rfl rfl rfl
theorem passE {N : List Str} {qual : Str} {scope : Scope} {f : Addr} {cd : Value} {A : Around} {outer : List Env} {s : Shared} {H : Hp} {E : XK} : Passes (L2.CX P w) (cxS P w K mg base N qual scope f cd A outer s H E) E := passes_call takesE fun _ _ _ _ h => h
theorem ownE {N : List Str} {qual : Str} {scope : Scope} {f : Addr} {cd : Value} {A : Around} {outer : List Env} {s : Shared} {H : Hp} {E : XK} :
    PassesOwn (model P w) (cxS P w K mg base N qual scope f cd A outer s H E).A (cxS P w K mg base N qual scope f cd A outer s H E).env (cxS P w K mg base N qual scope f cd A outer s H E).xe := PassesOwn.leaving

/-- THE RULE for a def, over this room -/
theorem fn_s {x qual : Str} {params : Arguments} {body : List Stmt} {scope : Scope} {f : Addr} {fd : FuncData} {N ps : List Str} {k : Nat} {sp : Sp} (F : FunD K x qual params body scope [] [] f fd) (S : FnScope N ps scope) (len : ∀ vs H Q E, sp vs H Q E → vs.length = ps.length)
    (hbody : ∀ (cdv : Value) (A : Around) (outer : List Env) (s : Shared) (H : Hp) (vs : List V) (Q : VK) (E : XK), RoomS k (A.deeper (envOfC qual scope s.heap.objs.size f cdv)) → sp vs H Q E →
      ∃ t, PSs (cxS P w K mg base N qual scope f cdv A outer s H E) body t ∧ t { nx := fun _ H' => Q .non H', rt := Q } (start N vs) H) : FnS P w K mg base (k + 1) f fd ps sp := by
  obtain ⟨oc, od, dV, kV, doc, pm, an, cdv, ct, osl, rfl, lk, hcd, _, _⟩ := F.ex
  refine ⟨len, fun A outer s H args us vs Q E hr e0 hb r hsp => ?_⟩
  have KX : K.In s.heap := e0.mod.kin.keeps fun b o e => (e0.bs b o e).1
  have lim : s.heap.NoLimit := e0.mod.nolimit.keeps fun b o e => (e0.bs b o e).1
  refine codeAny_call_function (by have := hr.dp; omega) (KX _ _ lk) rfl S.co S.gen rfl (PySem.W.codeRec_of KX hcd) (hb _ _ _ _ (wpAny_newFunctionEnv_cells S.kind (fun y hy => ?_) fun env he s1 x => ?_))
  · exact (S.par y.1 (List.of_mem_zip hy).1).imp id fun q => ⟨q, PySem.W.cellsFrom_some _ _ _ (.inl q)⟩
  · subst he
    refine ⟨lim.keeps x.toInCall.keep, codeAny_func ?_⟩
    obtain ⟨t, ht, hq⟩ := hbody cdv A outer s H vs Q E (hr.deeper _) hsp
    have I := inv_start (CX := L2.CX P w) (E := E) S hr.hd e0 (len _ _ _ _ hsp) r x
    refine wpAny_mono (ht.run [] s1 (start N vs) H _ I hq) (fun fl s' hs => ?_) fun e s' hs => hs
    match fl, hs with
    | .ret u, ⟨v, σ', H', J, rv, q⟩ => exact ⟨v, H', J.os, J.bare, J.base, J.hok, rv, q⟩
    | .next, ⟨σ', H', J, q⟩ => exact ⟨V.non, H', J.os, J.bare, J.base, J.hok, rfl, q⟩
    | .brk, ⟨_, _, _, q⟩ => exact q.elim
    | .cont, ⟨_, _, _, q⟩ => exact q.elim
end
end K18

/-! S1: rules that the layer lacks: list.extend of a tuple, a text times an int, repr of data. -/
namespace K18
open PySem PySem.Spec L2
open PyProof.Rows hiding St

/-! ### l.extend(t), t a tuple -/
theorem extend_tuple (l : Addr) (items : Array Value) (n : Nat) (b : Addr) (items2 : Array Value) (n2 : Nat) (od : Option Addr) (sl : Array (Option Value)) (h0 : ¬(!items.isEmpty && Builtin.List.listTooLong (items.size + items2.size)) = true) (h1 : items.size ≤ sizeLine)
    (h2 : items.size + items2.size ≤ sizeLine + 1) :
    Meets (Builtin.«list.extend» ⟨[.ref l, .ref b], []⟩) (fun _ R s => s.heap.get? l = some { cls := .type "list", dict := none, data := .seq items n, slots := #[] } ∧ s.heap.get? b = some { cls := .type "tuple", dict := od, data := .seq items2 n2, slots := sl } ∧
      R (.ok (.ret Value.none)) { s with heap := s.heap.update l (Obj.mapSeq fun x => x ++ items2), toks := s.toks }) :=
  .of_wp fun prog w A R s h => by
    obtain ⟨hp, g, d, tk, os⟩ := s
    obtain ⟨hl, hb, h⟩ := h
    have f1 := AutoSeq1.idx_int
    have f2 := AutoSeq1.sub_tuple_tuple
    have f3 := AutoSeq1.sub_list_list
    have f4 := AutoSeq1.sub_tuple_list
    have f5 := AutoSeq1.sub_list_tuple
    have hz : (items ++ items2).size ≤ sizeLine + 1 := by rw [Array.size_append]; exact h2
    wp_walk using (wpAny_updateSeq hl rfl (hz := h1) (_hz' := hz)), wpAny_loadPart' hl, wpAny_loadPart' hb
    exact ⟨_, rfl, h⟩
def rExtT (K : PySem.W.Frag) : V → List V → Hp → VK → Prop := fun x vs H Q => ∃ l b xs zs, x = .ref l ∧ vs = [.ref b] ∧ H l = some (.lst xs) ∧ SqT K H b zs ∧ xs.length + zs.length ≤ sizeLine ∧ Q .non (upd H l (.lst (xs ++ zs)))
section
variable {X : Cx}
theorem mt_extT : MtM X "list.extend" (rExtT X.K) := by
  intro pins s σ H x vs v us Q I rx rv h
  obtain ⟨l, b, xs, zs, rfl, rfl, hH, hB, hz, q⟩ := h
  cases rx
  obtain ⟨u, rfl, ru⟩ := rv.one
  cases ru
  obtain ⟨z, its, n, r, hl, e⟩ := I.lstM hH
  obtain ⟨its2, r2, ⟨o, e2, hc, n2, hd⟩, hz2⟩ := I.tuple hB
  have l2 := r2.length
  obtain ⟨oc, od, dt, sl⟩ := o
  cases hc
  cases hd
  have hsz : its.toArray.size + its2.toArray.size ≤ sizeLine := by rw [List.size_toArray, List.size_toArray]; omega
  have hlong : ¬ (!its.toArray.isEmpty && Builtin.List.listTooLong (its.toArray.size + its2.toArray.size)) = true := by
    rw [notLongL hsz, Bool.and_false]
    exact Bool.false_ne_true
  refine call_meets F.slot_list_extend ⟨_, e, rfl⟩ F.entry_list_extend (F.args_list_extend_2 _ _)
    (extend_tuple l its.toArray n b its2.toArray n2 od sl hlong (by rw [List.size_toArray]; omega) (by omega)) ⟨e, e2, ?_⟩
  refine ⟨.non, _, I.lset (its' := its ++ its2) hH e (by simp) (r.append r2) ?_, rfl, q⟩
  rw [List.length_append]
  omega
end

/-! ### x * n, x a text -/
def rMulS : R2 := fun x y H Q => ∃ (z : Str) (n : Int), x = .str z ∧ y = .int n ∧ -1000 ≤ n ∧ n ≤ 1000 ∧ z.length ≤ 1000 ∧ Q (.str ⟨(List.replicate n.toNat z.cps.toList).flatten.toArray⟩) H
theorem foldl_arr : ∀ (n : Nat) (a b : Array Nat), (List.replicate n a).foldl (· ++ ·) b = b ++ (List.replicate n a.toList).flatten.toArray
  | 0, a, b => by simp
  | n + 1, a, b => by
    rw [List.replicate_succ, List.foldl_cons, foldl_arr n a (b ++ a), List.replicate_succ, List.flatten_cons]
    apply Array.ext'
    simp
theorem str_rep1 (z : Str) : (⟨(List.replicate 1 z.cps.toList).flatten.toArray⟩ : Str) = z := by
  obtain ⟨c⟩ := z
  simp
theorem op_mulS {X : Cx} : OpR X (binaryOp .Mult) rMulS := by
  intro pins s σ H x y v u Q I rx ry h
  obtain ⟨z, n, rfl, rfl, h1, h2, hz, q⟩ := h
  obtain ⟨t, rfl⟩ := rx
  obtain ⟨t', rfl⟩ := ry
  have hm : z.length * n.toNat ≤ 1000 * 1000 := Nat.mul_le_mul hz (by omega)
  refine P.mul_str (by rw [decide_eq_false (by omega), decide_eq_false (by omega)]; rfl) (fun a _ => ?_) (fun _ _ => ?_) ?_
  · have : (1000 : Int) ≤ (2 ^ 63 - 1) / n := Int.le_ediv_of_mul_le (by omega) (by have : 1000 * n ≤ 1000 * 1000 := by omega
                                                                                   omega)
    omega
  · show decide (z.length * n.toNat > sizeLine) = false
    exact decide_eq_false (by rw [sizeLine_eq]; omega)
  · have fin : ∀ w' : Value, RelV (.str ⟨(List.replicate n.toNat z.cps.toList).flatten.toArray⟩) w' → ∀ tk, EP X pins σ Q w' { s with toks := tk } := fun w' r tk => ⟨_, H, I.tok _, r, q⟩
    by_cases c1 : n < 1
    · rw [if_pos c1]
      have e : n.toNat = 0 := by omega
      rw [e] at fin
      exact ⟨by decide, fin (.str Str.empty s.toks) ⟨_, rfl⟩ _⟩
    · rw [if_neg c1]
      by_cases c2 : (n == 1 || z.length == 0) = true
      · rw [if_pos c2]
        refine fin (.str z t) ⟨t, ?_⟩ s.toks
        congr 1
        rcases Bool.or_eq_true_iff.mp c2 with c | c
        · have e : n = 1 := by simpa using c
          subst e
          exact (str_rep1 z).symm
        · have e : z.cps = #[] := by
            have e1 : z.length = 0 := by simpa using c
            exact Array.size_eq_zero_iff.mp e1
          obtain ⟨cz⟩ := z
          cases e
          congr 1
          apply Array.ext'
          simp
      · rw [if_neg c2]
        refine ⟨?_, fin _ ⟨s.toks, ?_⟩ _⟩
        · rw [foldl_arr]
          show (#[] ++ (List.replicate n.toNat z.cps.toList).flatten.toArray).size ≤ sizeLine
          rw [sizeLine_eq]
          simp
          have e : z.cps.size = z.length := rfl
          rw [e, Nat.mul_comm]
          omega
        · rw [foldl_arr]
          congr 2
          simp

/-! ### repr of a tuple of data -/
def rRepr (K : PySem.W.Frag) : List V → Hp → VK → Prop := fun vs H Q => ∃ (a : Addr) (d : PyData), vs = [.ref a] ∧ Dp K H (.ref a) d ∧ d.showable = true ∧ d.hasDict = false ∧ d.depth ≤ 60 ∧ d.shown.length ≤ sizeLine ∧ Q (.str d.shown) H
theorem call_reprD {X : Cx} {k : Nat} (hr : RoomS k X.A) : CallR X (.builtin "repr") (rRepr X.K) := by
  intro pins s σ H vs us Q I r h
  obtain ⟨a, d, rfl, hd, h1, h2, h3, h4, q⟩ := h
  obtain ⟨u, rfl, rx⟩ := vals1 r
  cases rx
  obtain ⟨as, rd⟩ := Dp.reads I d _ _ hd rfl
  refine repr_of_reads' rd h1 (PyData.noDict_hsm h2) hr.gd (by have := hr.hu; omega) (fun _ _ e => e) (fun h' u tk k => ?_) h4
  exact ⟨.str d.shown, H, I.kept (t' := tk) k, ⟨_, rfl⟩, q⟩
end K18

/-! S2: TextError(place, reason): its __init__ says super().__init__(reason), then two fields. -/
namespace K18
open PySem PySem.Spec L2
open PyProof.Rows hiding St
abbrev R0 : Program := PySem.Challenge.pw_flowform_k18_whole_only_tokens_matter
def top (i : Nat) : Stmt := R0.main.body.getD i (.Pass ⟨0, 0, 0, 0⟩)
abbrev sTI : Stmt := inClass (top 2) 0
/-- what the written part says of the class, at C -/
structure TxE (K : PySem.W.Frag) (mg : Str → Option Value) (C : Addr) : Prop where
  gC : mg "TextError" = some (.ref C)
  ns : mg "super" = none
  cls : ∃ nm q N bs bm sn sub ab col dd k0 k1 k2 k3 k5, K.lookup C = some (excClassObj nm q C N bs bm true sn sub ab col dd k0 k1 k2 k3 k5 "ValueError.__new__") ∧ PySem.HandSPX.refsVE bm = true
  sa : PySem.W.findIn K (.ref C) "__setattr__" = some (some (.builtin "object.__setattr__"))
  noP : PySem.W.findIn K (.ref C) "place" = some none
  noR : PySem.W.findIn K (.ref C) "reason" = some none
  kC : PySem.W.keepIn K (.ref C) = true
  exC : PySem.W.subIn K (.ref C) (.type "BaseException") = some true
  veC : PySem.W.subIn K (.ref C) (.type "ValueError") = some true
  tyC : PySem.W.typeIn K (.ref C) = some (.type "type")
  te : PySem.W.exmOne K (.ref C) (.ref C) = some true
  sub : PySem.W.mroIn K C (.ref C) = some true
  sup : PySem.W.ks_superIn K C C "__init__" = some (some (.builtin "ValueError.__init__"))
  opq : PySem.W.nsIn K cStatics "thirdparty.any" = some none
  ini : ∃ (fI cc cda : Addr) (oc ccl cl : Value) (od cdd cld an : Option Addr) (osl ccs csl : Array (Option Value)) (kV doc pm ct : Value) (vs : Array Value) (file : Str) (tf : Tok),
    PySem.W.findIn K (.ref C) "__init__" = some (some (.ref fI)) ∧ PySem.W.typeIn K (.ref fI) = some (.type "function") ∧
    K.lookup fI = some ⟨oc, od, .func (PySem.W.ksFn "__init__" "TextError.__init__" (defArgs sTI) (defBody sTI) (defScope sTI) .none kV doc pm an (.ref cda) ct cc), osl⟩ ∧ PySem.W.codeIn K (.ref cda) "TextError.__init__" = true ∧
    K.lookup cda = some ⟨ccl, cdd, .fields vs, ccs⟩ ∧ vs[2]? = some (.str file tf) ∧ ((R0.main.file : Str) == file) = true ∧ K.lookup cc = some ⟨cl, cld, .cell (some (.ref C)), csl⟩

section
open PySem.W PySem.Calls PySem.HandSPX
variable {w : World} {A : Around} {E : Value → Shared → Prop} {R : Result → Shared → Prop} {s : Shared} {K : Frag} {mg mb : Str → Option Value} {C : Addr}
/-- the bound ValueError.__init__ at u, called -/
theorem te_super {h : Heap} {g : Array GenState} {d : Drawn} {t : Nat} {os : OsState} {u x t0 : Addr} {rest : List Value} {Q : Value → Shared → Prop} (T : TxE K mg C) (X : K.In h) (hx : h.get? x = some (excO C t0)) (hu : h.get? u = some (kxs_mw "ValueError.__init__" x)) (hz : rest.length ≤ sizeLine)
    (hq : ∀ h' t1, (∀ b o, b ≠ x → h.get? b = some o → h'.get? b = some o) → h'.get? x = some (excO C t1) → Q .none ⟨h', g, d, t, os⟩) :
    wpAny (model R0 w) A (call (.ref u) rest) Q E ⟨h, g, d, t, os⟩ := by
  obtain ⟨nm, q, N, bs, bm, sn, sub, ab, col, dd, k0, k1, k2, k3, k5, hC, hbm⟩ := T.cls
  refine wpAny_call (codeAny_of_tree ?_)
  show wpAny _ A.in1 (callAny (.ref u) ⟨rest, []⟩) _ _ _
  simp only [callAny]
  refine wpAny_bind (wpAny_load hu ?_)
  simp only [kxs_mw, show (Value.type "method-wrapper" == Value.type "method" || Value.type "method-wrapper" == Value.type "builtin_function_or_method" || Value.type "method-wrapper" == Value.type "method-wrapper") = true by decide, if_true]
  refine KFB.if_so (by decide) ?_
  refine wpAny_bind (check_bound_init F.excBase_ValueError.toExcCallFacts (X _ _ hC) hx rfl ?_)
  refine wpAny_bind (wpAny_pure (wpAny_pure ?_))
  refine ⟨plainId_quiet F.excBase_ValueError.init.plain _, codeAny_builtin F.excBase_ValueError.initEntry ?_⟩
  exact exc_init_tree (cls := .ref C) (t0 := t0) (dv := none) (c2 := .none) (c3 := .none) (b4 := .bool false) hx hz fun h' k e _ => hq h' _ k e
/-- what __init__ leaves -/
structure TeEnd (h h' : Heap) (x C dx t1 : Addr) (v r : Value) : Prop where
  keep : ∀ b o, b ≠ x → h.get? b = some o → h'.get? b = some o
  obj : h'.get? x = some { cls := .ref C, dict := some dx, data := .fields #[.ref t1, .none, .none, .none, .bool false, .none] }
  dbig : h.objs.size ≤ dx
  dne : dx ≠ x
  ns : h'.Ns1 dx (fun y => if y = "reason" then some r else if y = "place" then some v else none)
theorem lx {M : Model} {s : Shared} {fd : FuncData} {L a : Addr} {m : Str → Option Value} {y : Str} {pos : Pos} {v : Value} {Q : Value → Shared → Prop} {A : Around} {E : Value → Shared → Prop} (hn : s.heap.Ns L m) (hv : m y = some v) (h : Q v s)
    (hk : fd.scope.kind = .function) (hl : (callEnv fd L a).kindOf y = some .local) (hd : (y == ("__debug__" : Str)) = false := by decide) :
    wpAny M A (eval (.Name y pos) (callEnv fd L a)) Q E s := wpAny_Name (wpAny_loadName_local hk hl hn hv h) hd
theorem te_init {x t0 fI : Addr} {v r : Value} (T : TxE K mg C) (hI : findIn K (.ref C) "__init__" = some (some (.ref fI))) (X : K.In s.heap) (G : s.heap.Ns mainGlobals mg) (B : s.heap.Ns builtinsNs mb) (hb : mb "super" = some (.type "super")) (hlim : s.heap.NoLimit)
    (hx : s.heap.get? x = some (excO C t0)) (hnx : K.lookup x = none) (hroom : A.depth < recursionLimit)
    (hq : ∀ h' tk dx t1, TeEnd s.heap h' x C dx t1 v r → R (.ok (.ret .none)) { s with heap := h', toks := tk }) :
    codeAny (model R0 w) A (.call (.ref fI) ⟨[.ref x, v, r], []⟩) R s := by
  obtain ⟨nm, q, N, bs, bm, sn, sub, ab, col, dd, k0, k1, k2, k3, k5, hC, hbm⟩ := T.cls
  obtain ⟨fI', cc, cda, oc, ccl, cl, od, cdd, cld, an, osl, ccs, csl, kV, doc, pm, ct, vs, file, tf, hI', hT, hF, hcd, hcda, hvs, hfile, hcell⟩ := T.ini
  have e : fI' = fI := by
    have z := hI'.symm.trans hI
    cases z
    rfl
  subst e
  have hcl : clsIn K C = some { name := nm, bases := bs, mro := .ref C :: bm, ns := N, qualname := q, hasDict := true, slotNames := sn, subclasses := sub, abstract := ab, collection := col, hasDel := false } := by unfold clsIn; rw [hC] <;> rfl
  refine ks_codeAny_call_defAt (binds := [("self", .ref x), ("place", v), ("reason", r)]) hroom (X _ _ hF) rfl hlim (codeRec_of X hcd) rfl (BindsTo.of_eq (by rfl)) (show ∀ z ∈ (defScope sTI).names, z.2 ≠ .cell by decide +kernel) (by intro y hy; simp only [List.mem_cons, List.mem_nil_iff, or_false] at hy; rcases hy with rfl | rfl | rfl <;> rfl) (fun h₁ hn k => ?_) rfl rfl rfl
  have X₁ : K.In h₁ := X.keeps k
  have hx₁ := k _ _ hx
  have I₁ : InstAt h₁ x (excO C t0) C none := ⟨hx₁, rfl, rfl, trivial⟩
  refine ks_wpAt_execs_cons (ks_wpAt_Expr_any (ks_wpAt_MethodCall (ks_wpAt_super_base (f := fI') (cc := cda) rfl rfl (by decide) rfl (X₁ _ _ hF) rfl rfl rfl (X₁ _ _ hcda) rfl hvs hfile (by decide +kernel) ?_)))
  refine ks_loadName_global rfl rfl (loadGlobal_builtin (G.keeps k) T.ns (B.keeps k) hb ⟨rfl, ?_⟩)
  refine wpAny_loadName_free rfl rfl rfl ⟨_, X₁ _ _ hcell, rfl⟩ ?_
  refine wpAny_loadName_local rfl rfl hn (v := .ref x) (by rfl) ?_
  refine ks_wpAny_isType_cls (X₁ _ _ hC) rfl ⟨rfl, ?_⟩
  refine ks_wpAny_call_super (X₁ _ _ hC) rfl hx₁ rfl (fun c z => by cases z) (looks_mroIn X₁ T.sub) (fun h₂ hso k₂ => ?_)
  have X₂ : K.In h₂ := X₁.keeps k₂
  have hx₂ := k₂ _ _ hx₁
  have I₂ : InstAt h₂ x (excO C t0) C none := ⟨hx₂, rfl, rfl, trivial⟩
  have hn₂ := hn.keeps k₂
  have hal : alongIn K "__init__" (((.ref C :: bm : List Value).dropWhile (· != .ref C)).drop 1) = some (some (.builtin "ValueError.__init__")) := by
    have z := T.sup
    unfold ks_superIn at z
    rw [hcl] at z
    exact z
  refine kxs_getMethod kxs_ValueError hso (looks_opaque X₂ T.opq) (l₀ := .ref C :: bm) (fun A' Q' E' s' k' q' => wpAny_bind ((looks_clsIn X₂ hcl) A' _ E' s' k' (wpAny_pure q'))) rfl X₂ hal (I₂.type.andThen (looks_subIn X₂ T.veC)) (ks_ne X₂ I₂ hcl) (by decide) ?_
  have k₃ : ∀ b o, h₂.get? b = some o → (h₂.push (kxs_mw "ValueError.__init__" x)).get? b = some o := fun b o z => Heap.get?_push_of_some _ z
  refine kxs_callWith (i := "ValueError.__init__") (x := x) rfl (evalArgs_plain ?_)
  refine spliced_cons (lx (hn₂.keeps k₃) (v := r) rfl (spliced_nil ⟨Heap.get?_push_size _ rfl, ?_⟩) rfl rfl)
  refine te_super T (X₂.keeps k₃) (k₃ _ _ hx₂) (Heap.get?_push_size _ rfl) (by rw [sizeLine_eq]; exact (by decide : 1 ≤ 16777216)) (fun h₄ t1 k₄ hx₄ => ?_)
  have kk : ∀ b o, b ≠ x → s.heap.get? b = some o → h₄.get? b = some o := fun b o hb z => k₄ b o hb (k₃ b o (k₂ b o (k b o z)))
  have hL : s.heap.objs.size ≠ x := Nat.ne_of_gt (Heap.lt_size hx)
  have ne : ∀ {b : Addr} {o : Obj}, K.lookup b = some o → b ≠ x := fun {b o} z y => by
    rw [y, hnx] at z
    cases z
  have X₄ : K.In h₄ := fun b o z => kk b o (ne z) (X b o z)
  have hn₄ : h₄.Ns s.heap.objs.size (fun y => ([("self", Value.ref x), ("place", v), ("reason", r)] : List (Str × Value)).reverse.lookup y) := by
    obtain ⟨oL, es, ep, hL1, z⟩ := hn₂.keeps k₃
    exact ⟨oL, es, ep, k₄ _ _ hL hL1, z⟩
  refine wpAt_of_wpAny (wpAny_execs_cons (plainObj_wpAny_Assign_Attribute (lx hn₄ (v := v) rfl (lx hn₄ (v := .ref x) rfl ?_ rfl rfl) rfl rfl)))
  refine set_plain X₄ (ox := excO C t1) (od := none) ⟨hx₄, rfl, rfl, trivial⟩ T.sa ?_
  refine exc_osa X₄ hx₄ hcl (show refsVE (.ref C :: bm) = true from hbm) rfl T.noP (fun h₅ tk₅ dx k₅ dn dne hx₅ hn₅ => ?_)
  have X₅ : K.In h₅ := fun b o z => k₅ b o (ne z) (X₄ b o z)
  have hn₆ : h₅.Ns s.heap.objs.size (fun y => ([("self", Value.ref x), ("place", v), ("reason", r)] : List (Str × Value)).reverse.lookup y) := by
    obtain ⟨oL, es, ep, hL1, z⟩ := hn₄
    exact ⟨oL, es, ep, k₅ _ _ hL hL1, z⟩
  refine wpAny_execs_cons (plainObj_wpAny_Assign_Attribute (lx hn₆ (v := r) rfl (lx hn₆ (v := .ref x) rfl ?_ rfl rfl) rfl rfl))
  obtain ⟨oD, _, _, hoD, _, _⟩ := id hn₅
  refine set_plain X₅ (ox := { cls := .ref C, dict := some dx, data := .fields #[.ref t1, .none, .none, .none, .bool false, .none] }) (od := some oD) ⟨hx₅, rfl, rfl, hoD⟩ T.sa ?_
  refine PySem.OEX.osa_old X₅ hx₅ hn₅ (nl := ["place"]) (fun y hy => ?_) (by decide) hcl (show refsVE (.ref C :: bm) = true from hbm) rfl T.noR (fun h₆ tk₆ k₆ hn₇ => ?_)
  · by_cases c : y = "place"
    · rw [c]
      exact List.mem_cons_self ..
    · exact absurd (if_neg c) hy
  · refine wpAny_execs_nil (hq h₆ tk₆ dx t1 ⟨fun b o hb z => ?_, k₆ _ _ (Ne.symm dne) hx₅, ?_, dne, hn₇⟩)
    · have lt := Heap.lt_size (kk b o hb z)
      exact k₆ b o (Nat.ne_of_lt (Nat.lt_of_lt_of_le lt dn)) (k₅ b o hb (kk b o hb z))
    · have z : s.heap.objs.size < h₄.objs.size := hn₄.lt
      exact Nat.le_of_lt (Nat.lt_of_lt_of_le z dn)
/-- a made TextError -/
structure TeMade (h h' : Heap) (e C d : Addr) (v r : Value) : Prop where
  keep : ∀ b o, h.get? b = some o → h'.get? b = some o
  new : h.objs.size ≤ e
  obj : ∃ oe fv, h'.get? e = some oe ∧ oe.cls = .ref C ∧ oe.dict = some d ∧ oe.data = .fields fv ∧ fv[1]? = some .none
  dbig : h.objs.size ≤ d
  dne : d ≠ e
  ns : h'.Ns1 d (fun y => if y = "reason" then some r else if y = "place" then some v else none)
theorem te_made {v r : Value} (T : TxE K mg C) (X : K.In s.heap) (G : s.heap.Ns mainGlobals mg) (B : s.heap.Ns builtinsNs mb) (hb : mb "super" = some (.type "super")) (hlim : s.heap.NoLimit) (hroom : A.depth + 1 < recursionLimit)
    (hq : ∀ h' tk e d, TeMade s.heap h' e C d v r → R (.ok (.ret (.ref e))) { s with heap := h', toks := tk }) :
    codeAny (model R0 w) A (.call (.ref C) ⟨[v, r], []⟩) R s := by
  obtain ⟨nm, q, N, bs, bm, sn, sub, ab, col, dd, k0, k1, k2, k3, k5, hC, hbm⟩ := T.cls
  obtain ⟨fI, _, _, _, _, _, _, _, _, _, _, _, _, _, _, _, _, _, _, _, hI, hT, _⟩ := T.ini
  obtain ⟨hp, g, dr, tk, os⟩ := s
  have k : ∀ b o, hp.get? b = some o → ((hp.push (kdv_tup [v, r])).push (excO C hp.objs.size)).get? b = some o := fun b o e => Heap.get?_push_of_some _ (Heap.get?_push_of_some _ e)
  have hget : ((hp.push (kdv_tup [v, r])).push (excO C hp.objs.size)).get? (hp.objs.size + 1) = some (excO C hp.objs.size) := by heap_get
  have hnx : K.lookup (hp.objs.size + 1) = none := by
    cases e : K.lookup (hp.objs.size + 1) with
    | none => rfl
    | some o => exact absurd (Nat.lt_of_succ_lt (Heap.lt_size (show hp.get? (hp.objs.size + 1) = some o from X _ _ e))) (Nat.lt_irrefl _)
  refine call_own F.excBase_ValueError (fun Y => refsVE_contains Y bm hbm) (X _ _ hC) (looks_findIn X hI) (fun self => bind_fn X self hT) (by rw [sizeLine_eq]; exact (by decide : 2 ≤ 16777216)) ?_
  refine te_init (s := ⟨(hp.push (kdv_tup [v, r])).push (excO C hp.objs.size), g, dr, tk, os⟩) T hI (X.keeps k) (G.keeps k) (B.keeps k) hb (hlim.keeps k) hget hnx hroom fun h' tk' dx t1 M => ?_
  have old : ∀ b o, hp.get? b = some o → h'.get? b = some o := fun b o e => M.keep b o (Nat.ne_of_lt (Nat.lt_succ_of_lt (Heap.lt_size e))) (k b o e)
  have z : hp.objs.size + 1 + 1 ≤ dx := by
    have q := M.dbig
    rw [Heap.size_push, Heap.size_push] at q
    exact q
  exact ⟨rfl, hq h' tk' (hp.objs.size + 1) dx ⟨old, Nat.le_succ _, ⟨_, _, M.obj, rfl, rfl, rfl, rfl⟩, Nat.le_trans (Nat.le_trans (Nat.le_succ _) (Nat.le_succ _)) z, M.dne, M.ns⟩⟩
end
/-- the fields of an error of this class -/
def teF (v r : V) : List (Str × V) := [("reason", r), ("place", v)]
section
variable {X : Cx} {C : Addr}
def tMkTE (C : Addr) (ta : TA) : St → Hp → XK → Prop := fun σ H Q => ta σ H fun vs H1 => ∃ v r, vs = [v, r] ∧ ∀ d, H1 d = none → Q (.ref C) (some d) (upd H1 d (.xd (teF v r)))
theorem pmk_te {a b : Expr} {ta : TA} {p pos : Pos} {k : Nat} (hP : X.prog = R0) (T : TxE X.K X.mg C) (hr : Room k X.A) (ha : PA X [a, b] ta) (hg : Gl X "TextError")
    (he : starEach [a, b] X.env = (false, eval a X.env) :: starEach [b] X.env := by rfl) (hpl : (backTo pos (starEach [b] X.env)).any (·.1) = false := by rfl) :
    PMk X (.Call (.Name "TextError" p) [a, b] [] pos) (tMkTE C ta) := by
  intro pins s σ H Q I h
  refine wpAny_Call_Name_kw (ld_glob I hg T.gC ?_)
  refine PySem.W.callWith_K (h₀ := X.base) I.ok.mod.kin T.kC (thn (ha.run pos pins s σ H _ I h) fun us s1 ⟨vs, H1, I1, r1, v, r, ev, q1⟩ => ⟨I1.kIn, ?_⟩) he hpl
  subst ev
  cases r1 with
  | cons rv r2 =>
  cases r2 with
  | cons rr rn =>
    cases rn
    rename_i v' r' _
    show wpAny _ _ (call (.ref C) [v', r']) _ _ _
    have hlim := I1.nolimit
    obtain ⟨mb, hB, hbb⟩ := I1.ok.mod.blt
    have hsup : mb "super" = some (.type "super") := (hbb _ (by decide +kernel)).trans (by decide +kernel)
    have G1 := I1.ok.mod.glob.keeps I1.bk
    have B1 := hB.keeps I1.bk
    have K1 := I1.kIn
    obtain ⟨hp, g, dr, tk, os⟩ := s1
    have made := @te_made
    rw [← hP] at made
    refine wpAny_call (made T K1 G1 B1 hsup hlim (by have := hr.dp; omega) fun h' tk' e d M => ?_)
    show MkP X pins σ Q (.ref e) ⟨h', g, dr, tk', os⟩
    obtain ⟨oe, fv, hoe, hc, hd, hdat, h1⟩ := M.obj
    obtain ⟨G', g1, g2⟩ := restrict h' fun b => decide (b ≠ e)
    have gk : ∀ b, b ≠ e → G'.get? b = h'.get? b := fun b hb => g1 b (decide_eq_true hb)
    have ge : G'.get? e = none := g2 e (by simp)
    have old : ∀ b o, hp.get? b = some o → G'.get? b = some o := fun b o q => (gk b (Nat.ne_of_lt (Nat.lt_of_lt_of_le (Heap.lt_size q) M.new))).trans (M.keep b o q)
    have ob : ObjOk X.prog X.w (upd H1 d (.xd (teF v r))) G' d (.xd (teF v r)) :=
      ⟨_, M.ns.at (fun o q => (gk d M.dne).trans q), relO_put rr (relO_put rv (fs := []) (mA := fun _ => none) fun _ => True.intro)⟩
    have J : Inv X pins σ (upd H1 d (.xd (teF v r))) ⟨G', g, dr, tk', os⟩ := I1.laid (t' := tk') old M.dbig ob
    refine ⟨e, oe, fv, ⟨G', g, dr, tk', os⟩, _, .ref C, some d, rfl, J, fun b o q => ?_, ge, hoe, ⟨hc, hd⟩, hdat, h1, ?_, rfl, I1.bare, raises_own T.exC T.tyC, q1 d (I1.hok.fresh M.dbig)⟩
    · by_cases hb : b = e
      · have q' : G'.get? b = some o := q
        rw [hb, ge] at q'
        cases q'
      · exact (gk b hb).symm.trans q
    · rw [upd_ne (Ne.symm M.dne)]
      exact I1.hok.fresh M.new
/-- raise TextError(..) -/
def tRaiseTE (C : Addr) (E : XK) (ta : TA) : TS := fun _ σ H => tMkTE C ta σ H fun cls d H' => E cls d H'
theorem ps_raiseTE {a b : Expr} {ta : TA} {E : XK} {p pos pos2 : Pos} {k : Nat} (hP : X.prog = R0) (hc : X.calm = true) (T : TxE X.K X.mg C) (hr : Room k X.A) (tk : Takes X (fun cls d _ H => E cls d H)) (ha : PA X [a, b] ta) (hg : Gl X "TextError")
    (he : starEach [a, b] X.env = (false, eval a X.env) :: starEach [b] X.env := by rfl) (hpl : (backTo pos (starEach [b] X.env)).any (·.1) = false := by rfl) :
    PS X (.Raise (some (.Call (.Name "TextError" p) [a, b] [] pos)) none pos2) (tRaiseTE C E ta) := ps_raise hc tk (pmk_te hP T hr ha hg he hpl)
end
end K18

/-! S3 (printed by gen3.py): where the defs stand, what the top leaves of them. -/
namespace K18
open PySem PySem.Spec L2
open PyProof.Rows hiding St

abbrev s_bodies_of : Stmt := top 8
abbrev s_condition_of : Stmt := top 9
abbrev s_inner_conditions : Stmt := top 10
abbrev s_condition_parts : Stmt := top 11
abbrev s_condition_depth : Stmt := top 12
abbrev s_places : Stmt := top 13
abbrev s_depths : Stmt := top 14
abbrev s_is_too_large : Stmt := top 15
abbrev s_is_number : Stmt := top 22
abbrev s_end_of : Stmt := top 27
abbrev s_token_at : Stmt := top 28
abbrev s_tokens : Stmt := top 29
abbrev s_chained : Stmt := top 31
abbrev s_R_init : Stmt := inClass (top 32) 0
abbrev s_R_text : Stmt := inClass (top 32) 1
abbrev s_R_is_name : Stmt := inClass (top 32) 2
abbrev s_R_fail : Stmt := inClass (top 32) 3
abbrev s_R_take : Stmt := inClass (top 32) 4
abbrev s_R_expect : Stmt := inClass (top 32) 5
abbrev s_R_contents : Stmt := inClass (top 32) 6
abbrev s_R_block : Stmt := inClass (top 32) 7
abbrev s_R_body : Stmt := inClass (top 32) 8
abbrev s_R_declaration : Stmt := inClass (top 32) 9
abbrev s_R_truth : Stmt := inClass (top 32) 10
abbrev s_R_statement : Stmt := inClass (top 32) 11
abbrev s_R_named : Stmt := inClass (top 32) 12
abbrev s_R_choice : Stmt := inClass (top 32) 13
abbrev s_R_loop : Stmt := inClass (top 32) 14
abbrev s_R_jump : Stmt := inClass (top 32) 15
abbrev s_R_ending : Stmt := inClass (top 32) 16
abbrev s_R_attempt : Stmt := inClass (top 32) 17
abbrev s_R_condition : Stmt := inClass (top 32) 18
abbrev s_R_conjunction : Stmt := inClass (top 32) 19
abbrev s_R_unary : Stmt := inClass (top 32) 20
abbrev s_read_program : Stmt := top 33
abbrev s_l_tape : Stmt := top 35
abbrev s_l_draw : Stmt := top 36
abbrev s_l_names : Stmt := top 37
abbrev s_l_leaf : Stmt := top 38
abbrev s_l_joined : Stmt := top 39
abbrev s_l_condition : Stmt := top 40
abbrev s_l_parts : Stmt := top 41
abbrev s_l_wild : Stmt := top 42
abbrev s_l_tree : Stmt := top 43
abbrev s_l_bodies : Stmt := top 44
abbrev s_l_scanned : Stmt := top 45
abbrev s_l_fault : Stmt := top 46
abbrev s_l_take : Stmt := top 47
abbrev s_l_named : Stmt := top 48
abbrev s_l_chained : Stmt := top 49
abbrev s_l_read_unary : Stmt := top 50
abbrev s_l_read_chain : Stmt := top 51
abbrev s_l_read_block : Stmt := top 52
abbrev s_l_read_body : Stmt := top 53
abbrev s_l_read_loop : Stmt := top 54
abbrev s_l_read_truth : Stmt := top 55
abbrev s_l_read_jump : Stmt := top 56
abbrev s_l_read_named : Stmt := top 57
abbrev s_l_read_if : Stmt := top 58
abbrev s_l_read_statement : Stmt := top 59
abbrev s_l_text_read : Stmt := top 60
abbrev s_l_spoilt_words : Stmt := top 61
abbrev s_l_said : Stmt := top 62
abbrev s_l_inside : Stmt := top 63
abbrev s_l_sentence : Stmt := top 64
abbrev s_l_spoken : Stmt := top 65
abbrev s_l_spaced : Stmt := top 66
abbrev s_l_told : Stmt := top 67
abbrev s_law : Stmt := top 68
def d_bodies_of : He.DefD := ⟨("bodies_of", none), "bodies_of", "bodies_of", defArgs s_bodies_of, defBody s_bodies_of, defScope s_bodies_of, [], []⟩
def d_condition_of : He.DefD := ⟨("condition_of", none), "condition_of", "condition_of", defArgs s_condition_of, defBody s_condition_of, defScope s_condition_of, [], []⟩
def d_inner_conditions : He.DefD := ⟨("inner_conditions", none), "inner_conditions", "inner_conditions", defArgs s_inner_conditions, defBody s_inner_conditions, defScope s_inner_conditions, [], []⟩
def d_condition_parts : He.DefD := ⟨("condition_parts", none), "condition_parts", "condition_parts", defArgs s_condition_parts, defBody s_condition_parts, defScope s_condition_parts, [], []⟩
def d_condition_depth : He.DefD := ⟨("condition_depth", none), "condition_depth", "condition_depth", defArgs s_condition_depth, defBody s_condition_depth, defScope s_condition_depth, [], []⟩
def d_places : He.DefD := ⟨("places", none), "places", "places", defArgs s_places, defBody s_places, defScope s_places, [], []⟩
def d_depths : He.DefD := ⟨("depths", none), "depths", "depths", defArgs s_depths, defBody s_depths, defScope s_depths, [], []⟩
def d_is_too_large : He.DefD := ⟨("is_too_large", none), "is_too_large", "is_too_large", defArgs s_is_too_large, defBody s_is_too_large, defScope s_is_too_large, [], []⟩
def d_is_number : He.DefD := ⟨("is_number", none), "is_number", "is_number", defArgs s_is_number, defBody s_is_number, defScope s_is_number, [], []⟩
def d_end_of : He.DefD := ⟨("end_of", none), "end_of", "end_of", defArgs s_end_of, defBody s_end_of, defScope s_end_of, [], []⟩
def d_token_at : He.DefD := ⟨("token_at", none), "token_at", "token_at", defArgs s_token_at, defBody s_token_at, defScope s_token_at, [], []⟩
def d_tokens : He.DefD := ⟨("tokens", none), "tokens", "tokens", defArgs s_tokens, defBody s_tokens, defScope s_tokens, [], []⟩
def d_chained : He.DefD := ⟨("chained", none), "chained", "chained", defArgs s_chained, defBody s_chained, defScope s_chained, [], []⟩
def d_R_init : He.DefD := ⟨("Reader", some "__init__"), "__init__", "Reader.__init__", defArgs s_R_init, defBody s_R_init, defScope s_R_init, [], []⟩
def d_R_text : He.DefD := ⟨("Reader", some "text"), "text", "Reader.text", defArgs s_R_text, defBody s_R_text, defScope s_R_text, [], []⟩
def d_R_is_name : He.DefD := ⟨("Reader", some "is_name"), "is_name", "Reader.is_name", defArgs s_R_is_name, defBody s_R_is_name, defScope s_R_is_name, [], []⟩
def d_R_fail : He.DefD := ⟨("Reader", some "fail"), "fail", "Reader.fail", defArgs s_R_fail, defBody s_R_fail, defScope s_R_fail, [], []⟩
def d_R_take : He.DefD := ⟨("Reader", some "take"), "take", "Reader.take", defArgs s_R_take, defBody s_R_take, defScope s_R_take, [], []⟩
def d_R_expect : He.DefD := ⟨("Reader", some "expect"), "expect", "Reader.expect", defArgs s_R_expect, defBody s_R_expect, defScope s_R_expect, [], []⟩
def d_R_contents : He.DefD := ⟨("Reader", some "contents"), "contents", "Reader.contents", defArgs s_R_contents, defBody s_R_contents, defScope s_R_contents, [], []⟩
def d_R_block : He.DefD := ⟨("Reader", some "block"), "block", "Reader.block", defArgs s_R_block, defBody s_R_block, defScope s_R_block, [], []⟩
def d_R_body : He.DefD := ⟨("Reader", some "body"), "body", "Reader.body", defArgs s_R_body, defBody s_R_body, defScope s_R_body, [], []⟩
def d_R_declaration : He.DefD := ⟨("Reader", some "declaration"), "declaration", "Reader.declaration", defArgs s_R_declaration, defBody s_R_declaration, defScope s_R_declaration, [], []⟩
def d_R_truth : He.DefD := ⟨("Reader", some "truth"), "truth", "Reader.truth", defArgs s_R_truth, defBody s_R_truth, defScope s_R_truth, [], []⟩
def d_R_statement : He.DefD := ⟨("Reader", some "statement"), "statement", "Reader.statement", defArgs s_R_statement, defBody s_R_statement, defScope s_R_statement, [], []⟩
def d_R_named : He.DefD := ⟨("Reader", some "named"), "named", "Reader.named", defArgs s_R_named, defBody s_R_named, defScope s_R_named, [], []⟩
def d_R_choice : He.DefD := ⟨("Reader", some "choice"), "choice", "Reader.choice", defArgs s_R_choice, defBody s_R_choice, defScope s_R_choice, [], []⟩
def d_R_loop : He.DefD := ⟨("Reader", some "loop"), "loop", "Reader.loop", defArgs s_R_loop, defBody s_R_loop, defScope s_R_loop, [], []⟩
def d_R_jump : He.DefD := ⟨("Reader", some "jump"), "jump", "Reader.jump", defArgs s_R_jump, defBody s_R_jump, defScope s_R_jump, [], []⟩
def d_R_ending : He.DefD := ⟨("Reader", some "ending"), "ending", "Reader.ending", defArgs s_R_ending, defBody s_R_ending, defScope s_R_ending, [], []⟩
def d_R_attempt : He.DefD := ⟨("Reader", some "attempt"), "attempt", "Reader.attempt", defArgs s_R_attempt, defBody s_R_attempt, defScope s_R_attempt, [], []⟩
def d_R_condition : He.DefD := ⟨("Reader", some "condition"), "condition", "Reader.condition", defArgs s_R_condition, defBody s_R_condition, defScope s_R_condition, [], []⟩
def d_R_conjunction : He.DefD := ⟨("Reader", some "conjunction"), "conjunction", "Reader.conjunction", defArgs s_R_conjunction, defBody s_R_conjunction, defScope s_R_conjunction, [], []⟩
def d_R_unary : He.DefD := ⟨("Reader", some "unary"), "unary", "Reader.unary", defArgs s_R_unary, defBody s_R_unary, defScope s_R_unary, [], []⟩
def d_read_program : He.DefD := ⟨("read_program", none), "read_program", "read_program", defArgs s_read_program, defBody s_read_program, defScope s_read_program, [], []⟩
def d_l_tape : He.DefD := ⟨("_law_tape", none), "_law_tape", "_law_tape", defArgs s_l_tape, defBody s_l_tape, defScope s_l_tape, [], []⟩
def d_l_draw : He.DefD := ⟨("_law_draw", none), "_law_draw", "_law_draw", defArgs s_l_draw, defBody s_l_draw, defScope s_l_draw, [], []⟩
def d_l_names : He.DefD := ⟨("_law_names", none), "_law_names", "_law_names", defArgs s_l_names, defBody s_l_names, defScope s_l_names, [], []⟩
def d_l_leaf : He.DefD := ⟨("_law_leaf", none), "_law_leaf", "_law_leaf", defArgs s_l_leaf, defBody s_l_leaf, defScope s_l_leaf, [], []⟩
def d_l_joined : He.DefD := ⟨("_law_joined", none), "_law_joined", "_law_joined", defArgs s_l_joined, defBody s_l_joined, defScope s_l_joined, [], []⟩
def d_l_condition : He.DefD := ⟨("_law_condition", none), "_law_condition", "_law_condition", defArgs s_l_condition, defBody s_l_condition, defScope s_l_condition, [], []⟩
def d_l_parts : He.DefD := ⟨("_law_parts", none), "_law_parts", "_law_parts", defArgs s_l_parts, defBody s_l_parts, defScope s_l_parts, [], []⟩
def d_l_wild : He.DefD := ⟨("_law_wild", none), "_law_wild", "_law_wild", defArgs s_l_wild, defBody s_l_wild, defScope s_l_wild, [], []⟩
def d_l_tree : He.DefD := ⟨("_law_tree", none), "_law_tree", "_law_tree", defArgs s_l_tree, defBody s_l_tree, defScope s_l_tree, [], []⟩
def d_l_bodies : He.DefD := ⟨("_law_bodies", none), "_law_bodies", "_law_bodies", defArgs s_l_bodies, defBody s_l_bodies, defScope s_l_bodies, [], []⟩
def d_l_scanned : He.DefD := ⟨("_law_scanned", none), "_law_scanned", "_law_scanned", defArgs s_l_scanned, defBody s_l_scanned, defScope s_l_scanned, [], []⟩
def d_l_fault : He.DefD := ⟨("_law_fault", none), "_law_fault", "_law_fault", defArgs s_l_fault, defBody s_l_fault, defScope s_l_fault, [], []⟩
def d_l_take : He.DefD := ⟨("_law_take", none), "_law_take", "_law_take", defArgs s_l_take, defBody s_l_take, defScope s_l_take, [], []⟩
def d_l_named : He.DefD := ⟨("_law_named", none), "_law_named", "_law_named", defArgs s_l_named, defBody s_l_named, defScope s_l_named, [], []⟩
def d_l_chained : He.DefD := ⟨("_law_chained", none), "_law_chained", "_law_chained", defArgs s_l_chained, defBody s_l_chained, defScope s_l_chained, [], []⟩
def d_l_read_unary : He.DefD := ⟨("_law_read_unary", none), "_law_read_unary", "_law_read_unary", defArgs s_l_read_unary, defBody s_l_read_unary, defScope s_l_read_unary, [], []⟩
def d_l_read_chain : He.DefD := ⟨("_law_read_chain", none), "_law_read_chain", "_law_read_chain", defArgs s_l_read_chain, defBody s_l_read_chain, defScope s_l_read_chain, [], []⟩
def d_l_read_block : He.DefD := ⟨("_law_read_block", none), "_law_read_block", "_law_read_block", defArgs s_l_read_block, defBody s_l_read_block, defScope s_l_read_block, [], []⟩
def d_l_read_body : He.DefD := ⟨("_law_read_body", none), "_law_read_body", "_law_read_body", defArgs s_l_read_body, defBody s_l_read_body, defScope s_l_read_body, [], []⟩
def d_l_read_loop : He.DefD := ⟨("_law_read_loop", none), "_law_read_loop", "_law_read_loop", defArgs s_l_read_loop, defBody s_l_read_loop, defScope s_l_read_loop, [], []⟩
def d_l_read_truth : He.DefD := ⟨("_law_read_truth", none), "_law_read_truth", "_law_read_truth", defArgs s_l_read_truth, defBody s_l_read_truth, defScope s_l_read_truth, [], []⟩
def d_l_read_jump : He.DefD := ⟨("_law_read_jump", none), "_law_read_jump", "_law_read_jump", defArgs s_l_read_jump, defBody s_l_read_jump, defScope s_l_read_jump, [], []⟩
def d_l_read_named : He.DefD := ⟨("_law_read_named", none), "_law_read_named", "_law_read_named", defArgs s_l_read_named, defBody s_l_read_named, defScope s_l_read_named, [], []⟩
def d_l_read_if : He.DefD := ⟨("_law_read_if", none), "_law_read_if", "_law_read_if", defArgs s_l_read_if, defBody s_l_read_if, defScope s_l_read_if, [], []⟩
def d_l_read_statement : He.DefD := ⟨("_law_read_statement", none), "_law_read_statement", "_law_read_statement", defArgs s_l_read_statement, defBody s_l_read_statement, defScope s_l_read_statement, [], []⟩
def d_l_text_read : He.DefD := ⟨("_law_text_read", none), "_law_text_read", "_law_text_read", defArgs s_l_text_read, defBody s_l_text_read, defScope s_l_text_read, [], []⟩
def d_l_spoilt_words : He.DefD := ⟨("_law_spoilt_words", none), "_law_spoilt_words", "_law_spoilt_words", defArgs s_l_spoilt_words, defBody s_l_spoilt_words, defScope s_l_spoilt_words, [], []⟩
def d_l_said : He.DefD := ⟨("_law_said", none), "_law_said", "_law_said", defArgs s_l_said, defBody s_l_said, defScope s_l_said, [], []⟩
def d_l_inside : He.DefD := ⟨("_law_inside", none), "_law_inside", "_law_inside", defArgs s_l_inside, defBody s_l_inside, defScope s_l_inside, [], []⟩
def d_l_sentence : He.DefD := ⟨("_law_sentence", none), "_law_sentence", "_law_sentence", defArgs s_l_sentence, defBody s_l_sentence, defScope s_l_sentence, [], []⟩
def d_l_spoken : He.DefD := ⟨("_law_spoken", none), "_law_spoken", "_law_spoken", defArgs s_l_spoken, defBody s_l_spoken, defScope s_l_spoken, [], []⟩
def d_l_spaced : He.DefD := ⟨("_law_spaced", none), "_law_spaced", "_law_spaced", defArgs s_l_spaced, defBody s_l_spaced, defScope s_l_spaced, [], []⟩
def d_l_told : He.DefD := ⟨("_law_told", none), "_law_told", "_law_told", defArgs s_l_told, defBody s_l_told, defScope s_l_told, [], []⟩
def d_law : He.DefD := ⟨("law", none), "law", "law", defArgs s_law, defBody s_law, defScope s_law, [], []⟩
def fn0 : List He.DefD := [d_bodies_of, d_condition_of, d_inner_conditions, d_condition_parts, d_condition_depth, d_places, d_depths, d_is_too_large, d_is_number, d_end_of, d_token_at, d_tokens, d_chained, d_R_init, d_R_text, d_R_is_name]
def fn1 : List He.DefD := [d_R_fail, d_R_take, d_R_expect, d_R_contents, d_R_block, d_R_body, d_R_declaration, d_R_truth, d_R_statement, d_R_named, d_R_choice, d_R_loop, d_R_jump, d_R_ending, d_R_attempt, d_R_condition]
def fn2 : List He.DefD := [d_R_conjunction, d_R_unary, d_read_program, d_l_tape, d_l_draw, d_l_names, d_l_leaf, d_l_joined, d_l_condition, d_l_parts, d_l_wild, d_l_tree, d_l_bodies, d_l_scanned, d_l_fault, d_l_take]
def fn3 : List He.DefD := [d_l_named, d_l_chained, d_l_read_unary, d_l_read_chain, d_l_read_block, d_l_read_body, d_l_read_loop, d_l_read_truth, d_l_read_jump, d_l_read_named, d_l_read_if, d_l_read_statement, d_l_text_read, d_l_spoilt_words, d_l_said, d_l_inside]
def fn4 : List He.DefD := [d_l_sentence, d_l_spoken, d_l_spaced, d_l_told, d_law]
def fn : List He.DefD := fn0 ++ fn1 ++ fn2 ++ fn3 ++ fn4
def fa0 : List He.Fa := [.glo "bodies_of", .glo "condition_of", .glo "inner_conditions", .glo "condition_parts", .glo "condition_depth", .glo "places", .glo "depths", .glo "is_too_large", .glo "is_number", .glo "end_of", .glo "token_at", .glo "tokens", .glo "chained", .glo "read_program", .glo "_law_tape", .glo "_law_draw"]
def fa1 : List He.Fa := [.glo "_law_names", .glo "_law_leaf", .glo "_law_joined", .glo "_law_condition", .glo "_law_parts", .glo "_law_wild", .glo "_law_tree", .glo "_law_bodies", .glo "_law_scanned", .glo "_law_fault", .glo "_law_take", .glo "_law_named", .glo "_law_chained", .glo "_law_read_unary", .glo "_law_read_chain", .glo "_law_read_block"]
def fa2 : List He.Fa := [.glo "_law_read_body", .glo "_law_read_loop", .glo "_law_read_truth", .glo "_law_read_jump", .glo "_law_read_named", .glo "_law_read_if", .glo "_law_read_statement", .glo "_law_text_read", .glo "_law_spoilt_words", .glo "_law_said", .glo "_law_inside", .glo "_law_sentence", .glo "_law_spoken", .glo "_law_spaced", .glo "_law_told", .glo "law"]
def fa3 : List He.Fa := [.glo "Reader", .glo "TextError", .glo "RESERVED", .glo "LONG_SYMBOLS", .free "len", .free "sum", .free "max", .free "min", .free "range", .free "int", .free "abs", .free "list", .free "tuple", .free "repr", .free "str", .free "isinstance"]
def fa4 : List He.Fa := [.free "super", .int "MOST_PLACES" 200, .int "DEEPEST_STATEMENT" 40, .int "DEEPEST_CONDITION" 20, .int "LONGEST_NAME" 30, .str "LETTERS" "abcdefghijklmnopqrstuvwxyzABCDEFGHIJKLMNOPQRSTUVWXYZ", .str "DIGITS" "0123456789", .str "WORD_CHARACTERS" "abcdefghijklmnopqrstuvwxyzABCDEFGHIJKLMNOPQRSTUVWXYZ0123456789_", .str "BLANKS" " \n\t", .str "SYMBOLS" "(){};:=!", .cls "Reader", .mkr "Reader", .meth "Reader" "text", .meth "Reader" "is_name", .meth "Reader" "fail", .meth "Reader" "take"]
def fa5 : List He.Fa := [.meth "Reader" "expect", .meth "Reader" "contents", .meth "Reader" "block", .meth "Reader" "body", .meth "Reader" "declaration", .meth "Reader" "truth", .meth "Reader" "statement", .meth "Reader" "named", .meth "Reader" "choice", .meth "Reader" "loop", .meth "Reader" "jump", .meth "Reader" "ending", .meth "Reader" "attempt", .meth "Reader" "condition", .meth "Reader" "conjunction", .meth "Reader" "unary"]
def fa6 : List He.Fa := [.noat "Reader" "row", .noat "Reader" "at", .noat "Reader" "end"]
def fa : List He.Fa := fa0 ++ fa1 ++ fa2 ++ fa3 ++ fa4 ++ fa5 ++ fa6

/-! ### facts of our own: the class TextError, two tuples -/
def teC (K : PySem.W.Frag) : Addr := He.ga K "TextError"
def teI (K : PySem.W.Frag) : Addr := He.ma K (teC K) "__init__"
def teClsB (K : PySem.W.Frag) : Bool := match K.lookup (teC K) with
  | some ⟨.type "type", _, .cls cd, sl⟩ => (match cd.mro, sl.toList with
    | .ref C' :: bm, [_, _, _, _, some (.builtin n), _] => C' == teC K && (n == "ValueError.__new__" && (!cd.hasDel && (cd.hasDict && PySem.HandSPX.refsVE bm)))
    | _, _ => false)
  | _ => false
abbrev FnE : Type := Option (Str × Str × Arguments × FuncBody × Scope × Addr × List Str × Addr)
def teW (K : PySem.W.Frag) : FnE := match K.lookup (teI K) with
  | some ⟨_, _, .func fd, _⟩ => some (fd.name, fd.qualname, fd.params, fd.body, fd.scope, fd.globals, fd.closure.map (·.1), fd.builtins)
  | _ => none
def teV : FnE := some ("__init__", "TextError.__init__", defArgs sTI, .stmts (defBody sTI), defScope sTI, mainGlobals, ["__class__"], builtinsNs)
def teFnB (K : PySem.W.Frag) : Bool := match K.lookup (teI K) with
  | some ⟨_, _, .func fd, _⟩ => (match fd.code, fd.closure, fd.defaults with
    | .ref c, [(_, cc)], .none => PySem.W.codeIn K (.ref c) "TextError.__init__" && ((match K.lookup c with
      | some ⟨_, _, .fields vs, _⟩ => (match (vs[2]? : Option Value) with
        | some (.str file _) => (R0.main.file : Str) == file
        | _ => false)
      | _ => false) && (match K.lookup cc with
      | some ⟨_, _, .cell (some (.ref D)), _⟩ => D == teC K
      | _ => false))
    | _, _, _ => false)
  | _ => false
def teB (K : PySem.W.Frag) : Bool := teClsB K && (teFnB K && (He.eqO (PySem.W.findIn K (.ref (teC K)) "__setattr__") (some (some (.builtin "object.__setattr__"))) && (He.eqO (PySem.W.findIn K (.ref (teC K)) "place") (some none) &&
  (He.eqO (PySem.W.findIn K (.ref (teC K)) "reason") (some none) && (PySem.W.keepIn K (.ref (teC K)) && (decide (PySem.W.subIn K (.ref (teC K)) (.type "BaseException") = some true) && (decide (PySem.W.subIn K (.ref (teC K)) (.type "ValueError") = some true) &&
  (decide (PySem.W.typeIn K (.ref (teC K)) = some (.type "type")) && (decide (PySem.W.exmOne K (.ref (teC K)) (.ref (teC K)) = some true) && (decide (PySem.W.mroIn K (teC K) (.ref (teC K)) = some true) &&
  (He.eqO (PySem.W.ks_superIn K (teC K) (teC K) "__init__") (some (some (.builtin "ValueError.__init__"))) && (He.eqO (PySem.W.nsIn K cStatics "thirdparty.any") (some none) && (He.eqO (PySem.W.findIn K (.ref (teC K)) "__init__") (some (some (.ref (teI K)))) &&
  (decide (PySem.W.typeIn K (.ref (teI K)) = some (.type "function")) && (He.eqO (PySem.W.findIn K (.ref (teC K)) "__getattribute__") (some (some (.builtin "BaseException.__getattribute__"))) && (He.eqO (PySem.W.findIn K (.ref (teC K)) "__getattr__") (some none) &&
  PySem.W.hasDictIn K (teC K)))))))))))))))))

def v_RESERVED : List Str := ["let", "if", "else", "while", "for", "break", "continue", "return", "try", "finally", "true", "false"]
def v_LONG_SYMBOLS : List Str := ["&&", "||"]
def tuB (K : PySem.W.Frag) : Bool := He.tupB K "RESERVED" (v_RESERVED.map He.Dv.str) && He.tupB K "LONG_SYMBOLS" (v_LONG_SYMBOLS.map He.Dv.str)
theorem teCls_of {K : PySem.W.Frag} (h : teClsB K = true) : ∃ nm q N bs bm sn sub ab col dd k0 k1 k2 k3 k5, K.lookup (teC K) = some (excClassObj nm q (teC K) N bs bm true sn sub ab col dd k0 k1 k2 k3 k5 "ValueError.__new__") ∧ PySem.HandSPX.refsVE bm = true := by
  unfold teClsB at h
  split at h
  · rename_i dd cd sl ho
    split at h
    · rename_i C' bm k0 k1 k2 k3 n k5 hm hs
      obtain ⟨e1, h⟩ := He.ba h
      obtain ⟨e2, h⟩ := He.ba h
      obtain ⟨e3, h⟩ := He.ba h
      obtain ⟨e4, e5⟩ := He.ba h
      obtain ⟨nm, bs, mro, ns, qn, hd, sn, sub, ab, col, del⟩ := cd
      have f1 : C' = teC K := by simpa using e1
      have f2 : n = "ValueError.__new__" := by simpa using e2
      have f3 : del = false := by simpa using e3
      have f4 : hd = true := e4
      have f5 : mro = .ref C' :: bm := hm
      subst f1 f2 f3 f4 f5
      have hsl : sl = #[k0, k1, k2, k3, some (.builtin "ValueError.__new__"), k5] := by
        obtain ⟨l⟩ := sl
        have hs' : l = _ := hs
        rw [hs']
      rw [hsl] at ho
      exact ⟨nm, qn, ns, bs, bm, sn, sub, ab, col, dd, k0, k1, k2, k3, k5, ho, e5⟩
    · cases h
  · cases h
theorem teFn_of {K : PySem.W.Frag} (h : teFnB K = true) (e : teW K = teV) : ∃ (cc cda : Addr) (oc ccl cl : Value) (od cdd cld an : Option Addr) (osl ccs csl : Array (Option Value)) (kV doc pm ct : Value) (vs : Array Value) (file : Str) (tf : Tok),
    K.lookup (teI K) = some ⟨oc, od, .func (PySem.W.ksFn "__init__" "TextError.__init__" (defArgs sTI) (defBody sTI) (defScope sTI) .none kV doc pm an (.ref cda) ct cc), osl⟩ ∧ PySem.W.codeIn K (.ref cda) "TextError.__init__" = true ∧
    K.lookup cda = some ⟨ccl, cdd, .fields vs, ccs⟩ ∧ vs[2]? = some (.str file tf) ∧ ((R0.main.file : Str) == file) = true ∧ K.lookup cc = some ⟨cl, cld, .cell (some (.ref (teC K))), csl⟩ := by
  unfold teFnB at h
  unfold teW at e
  cases q : K.lookup (teI K) with
  | none =>
    rw [q] at h
    cases h
  | some o =>
    obtain ⟨oc, od, dt, osl⟩ := o
    rw [q] at h e
    cases dt with
    | func fd =>
      obtain ⟨n1, n2, n3, n4, n5, n6, n7, n8, n9, n10, n11, n12, n13, n14, n15⟩ := fd
      have e2 : (some (n1, n2, n3, n4, n5, n6, n7.map (·.1), n15) : FnE) = teV := e
      simp only [teV, Option.some.injEq, Prod.mk.injEq] at e2
      obtain ⟨h1, h2, h3, h4, h5, h6, h7, h8⟩ := e2
      subst h1 h2 h3 h4 h5 h6 h8
      dsimp only at h
      split at h
      · rename_i c y cc
        have hy : y = ("__class__" : Str) := by
          have z := h7
          simp only [List.map_cons, List.map_nil, List.cons.injEq, and_true] at z
          exact z
        subst hy
        obtain ⟨g1, h⟩ := He.ba h
        obtain ⟨g2, g3⟩ := He.ba h
        split at g2
        · rename_i ccl cdd vs ccs hc
          split at g2
          · rename_i file tf hv
            split at g3
            · rename_i cl cld D csl hcc
              have f1 : D = teC K := by simpa using g3
              subst f1
              exact ⟨cc, c, oc, ccl, cl, od, cdd, cld, n12, osl, ccs, csl, n9, n10, n11, n14, vs, file, tf, rfl, g1, hc, hv, g2, hcc⟩
            · cases g3
          · cases g2
        · cases g2
      · cases h
    | _ => cases h
theorem te_of {K : PySem.W.Frag} {mg : Str → Option Value} (h : teB K = true) (e : teW K = teV) (g : mg "TextError" = some (.ref (teC K))) (s : mg "super" = none) : TxE K mg (teC K) ∧ XfC K (teC K) := by
  obtain ⟨c1, h⟩ := He.ba h
  obtain ⟨c2, h⟩ := He.ba h
  obtain ⟨c3, h⟩ := He.ba h
  obtain ⟨c4, h⟩ := He.ba h
  obtain ⟨c5, h⟩ := He.ba h
  obtain ⟨c6, h⟩ := He.ba h
  obtain ⟨c7, h⟩ := He.ba h
  obtain ⟨c8, h⟩ := He.ba h
  obtain ⟨c9, h⟩ := He.ba h
  obtain ⟨c10, h⟩ := He.ba h
  obtain ⟨c11, h⟩ := He.ba h
  obtain ⟨c12, h⟩ := He.ba h
  obtain ⟨c13, h⟩ := He.ba h
  obtain ⟨c14, h⟩ := He.ba h
  obtain ⟨c15, h⟩ := He.ba h
  obtain ⟨c16, h⟩ := He.ba h
  obtain ⟨c17, c18⟩ := He.ba h
  obtain ⟨cc, cda, oc, ccl, cl, od, cdd, cld, an, osl, ccs, csl, kV, doc, pm, ct, vs, file, tf, k1, k2, k3, k4, k5, k6⟩ := teFn_of c2 e
  exact ⟨⟨g, s, teCls_of c1, He.eqO_ok c3, He.eqO_ok c4, He.eqO_ok c5, c6, of_decide_eq_true c7, of_decide_eq_true c8, of_decide_eq_true c9, of_decide_eq_true c10, of_decide_eq_true c11, He.eqO_ok c12, He.eqO_ok c13,
    ⟨teI K, cc, cda, oc, ccl, cl, od, cdd, cld, an, osl, ccs, csl, kV, doc, pm, ct, vs, file, tf, He.eqO_ok c14, of_decide_eq_true c15, k1, k2, k3, k4, k5, k6⟩⟩, ⟨He.eqO_ok c16, He.eqO_ok c17, of_decide_eq_true c7, c18⟩⟩
theorem int_gc {K : PySem.W.Frag} {h : Heap} {mg : Str → Option Value} (X : K.In h) (G : h.Ns mainGlobals mg) {x : Str} {i : Int} (c : (He.Fa.int x i).ok K = true) : ∃ u, mg x = some u ∧ RelV (.int i) u := by
  obtain ⟨t, e⟩ := He.int_ok X G c
  exact ⟨_, e, t, rfl⟩
theorem str_gc {K : PySem.W.Frag} {h : Heap} {mg : Str → Option Value} (X : K.In h) (G : h.Ns mainGlobals mg) {x z : Str} (c : (He.Fa.str x z).ok K = true) : ∃ u, mg x = some u ∧ RelV (.str z) u := by
  obtain ⟨t, e⟩ := He.str_ok X G c
  exact ⟨_, e, t, rfl⟩

/-! ### what the walk leans on -/
structure Txt (K : PySem.W.Frag) (mg : Str → Option Value) : Prop where
  d_bodies_of : ∃ fd, FunD K d_bodies_of.name d_bodies_of.qual d_bodies_of.params d_bodies_of.body d_bodies_of.scope [] [] (He.fAd K d_bodies_of.at_) fd
  d_condition_of : ∃ fd, FunD K d_condition_of.name d_condition_of.qual d_condition_of.params d_condition_of.body d_condition_of.scope [] [] (He.fAd K d_condition_of.at_) fd
  d_inner_conditions : ∃ fd, FunD K d_inner_conditions.name d_inner_conditions.qual d_inner_conditions.params d_inner_conditions.body d_inner_conditions.scope [] [] (He.fAd K d_inner_conditions.at_) fd
  d_condition_parts : ∃ fd, FunD K d_condition_parts.name d_condition_parts.qual d_condition_parts.params d_condition_parts.body d_condition_parts.scope [] [] (He.fAd K d_condition_parts.at_) fd
  d_condition_depth : ∃ fd, FunD K d_condition_depth.name d_condition_depth.qual d_condition_depth.params d_condition_depth.body d_condition_depth.scope [] [] (He.fAd K d_condition_depth.at_) fd
  d_places : ∃ fd, FunD K d_places.name d_places.qual d_places.params d_places.body d_places.scope [] [] (He.fAd K d_places.at_) fd
  d_depths : ∃ fd, FunD K d_depths.name d_depths.qual d_depths.params d_depths.body d_depths.scope [] [] (He.fAd K d_depths.at_) fd
  d_is_too_large : ∃ fd, FunD K d_is_too_large.name d_is_too_large.qual d_is_too_large.params d_is_too_large.body d_is_too_large.scope [] [] (He.fAd K d_is_too_large.at_) fd
  d_is_number : ∃ fd, FunD K d_is_number.name d_is_number.qual d_is_number.params d_is_number.body d_is_number.scope [] [] (He.fAd K d_is_number.at_) fd
  d_end_of : ∃ fd, FunD K d_end_of.name d_end_of.qual d_end_of.params d_end_of.body d_end_of.scope [] [] (He.fAd K d_end_of.at_) fd
  d_token_at : ∃ fd, FunD K d_token_at.name d_token_at.qual d_token_at.params d_token_at.body d_token_at.scope [] [] (He.fAd K d_token_at.at_) fd
  d_tokens : ∃ fd, FunD K d_tokens.name d_tokens.qual d_tokens.params d_tokens.body d_tokens.scope [] [] (He.fAd K d_tokens.at_) fd
  d_chained : ∃ fd, FunD K d_chained.name d_chained.qual d_chained.params d_chained.body d_chained.scope [] [] (He.fAd K d_chained.at_) fd
  d_R_init : ∃ fd, FunD K d_R_init.name d_R_init.qual d_R_init.params d_R_init.body d_R_init.scope [] [] (He.fAd K d_R_init.at_) fd
  d_R_text : ∃ fd, FunD K d_R_text.name d_R_text.qual d_R_text.params d_R_text.body d_R_text.scope [] [] (He.fAd K d_R_text.at_) fd
  d_R_is_name : ∃ fd, FunD K d_R_is_name.name d_R_is_name.qual d_R_is_name.params d_R_is_name.body d_R_is_name.scope [] [] (He.fAd K d_R_is_name.at_) fd
  d_R_fail : ∃ fd, FunD K d_R_fail.name d_R_fail.qual d_R_fail.params d_R_fail.body d_R_fail.scope [] [] (He.fAd K d_R_fail.at_) fd
  d_R_take : ∃ fd, FunD K d_R_take.name d_R_take.qual d_R_take.params d_R_take.body d_R_take.scope [] [] (He.fAd K d_R_take.at_) fd
  d_R_expect : ∃ fd, FunD K d_R_expect.name d_R_expect.qual d_R_expect.params d_R_expect.body d_R_expect.scope [] [] (He.fAd K d_R_expect.at_) fd
  d_R_contents : ∃ fd, FunD K d_R_contents.name d_R_contents.qual d_R_contents.params d_R_contents.body d_R_contents.scope [] [] (He.fAd K d_R_contents.at_) fd
  d_R_block : ∃ fd, FunD K d_R_block.name d_R_block.qual d_R_block.params d_R_block.body d_R_block.scope [] [] (He.fAd K d_R_block.at_) fd
  d_R_body : ∃ fd, FunD K d_R_body.name d_R_body.qual d_R_body.params d_R_body.body d_R_body.scope [] [] (He.fAd K d_R_body.at_) fd
  d_R_declaration : ∃ fd, FunD K d_R_declaration.name d_R_declaration.qual d_R_declaration.params d_R_declaration.body d_R_declaration.scope [] [] (He.fAd K d_R_declaration.at_) fd
  d_R_truth : ∃ fd, FunD K d_R_truth.name d_R_truth.qual d_R_truth.params d_R_truth.body d_R_truth.scope [] [] (He.fAd K d_R_truth.at_) fd
  d_R_statement : ∃ fd, FunD K d_R_statement.name d_R_statement.qual d_R_statement.params d_R_statement.body d_R_statement.scope [] [] (He.fAd K d_R_statement.at_) fd
  d_R_named : ∃ fd, FunD K d_R_named.name d_R_named.qual d_R_named.params d_R_named.body d_R_named.scope [] [] (He.fAd K d_R_named.at_) fd
  d_R_choice : ∃ fd, FunD K d_R_choice.name d_R_choice.qual d_R_choice.params d_R_choice.body d_R_choice.scope [] [] (He.fAd K d_R_choice.at_) fd
  d_R_loop : ∃ fd, FunD K d_R_loop.name d_R_loop.qual d_R_loop.params d_R_loop.body d_R_loop.scope [] [] (He.fAd K d_R_loop.at_) fd
  d_R_jump : ∃ fd, FunD K d_R_jump.name d_R_jump.qual d_R_jump.params d_R_jump.body d_R_jump.scope [] [] (He.fAd K d_R_jump.at_) fd
  d_R_ending : ∃ fd, FunD K d_R_ending.name d_R_ending.qual d_R_ending.params d_R_ending.body d_R_ending.scope [] [] (He.fAd K d_R_ending.at_) fd
  d_R_attempt : ∃ fd, FunD K d_R_attempt.name d_R_attempt.qual d_R_attempt.params d_R_attempt.body d_R_attempt.scope [] [] (He.fAd K d_R_attempt.at_) fd
  d_R_condition : ∃ fd, FunD K d_R_condition.name d_R_condition.qual d_R_condition.params d_R_condition.body d_R_condition.scope [] [] (He.fAd K d_R_condition.at_) fd
  d_R_conjunction : ∃ fd, FunD K d_R_conjunction.name d_R_conjunction.qual d_R_conjunction.params d_R_conjunction.body d_R_conjunction.scope [] [] (He.fAd K d_R_conjunction.at_) fd
  d_R_unary : ∃ fd, FunD K d_R_unary.name d_R_unary.qual d_R_unary.params d_R_unary.body d_R_unary.scope [] [] (He.fAd K d_R_unary.at_) fd
  d_read_program : ∃ fd, FunD K d_read_program.name d_read_program.qual d_read_program.params d_read_program.body d_read_program.scope [] [] (He.fAd K d_read_program.at_) fd
  d_l_tape : ∃ fd, FunD K d_l_tape.name d_l_tape.qual d_l_tape.params d_l_tape.body d_l_tape.scope [] [] (He.fAd K d_l_tape.at_) fd
  d_l_draw : ∃ fd, FunD K d_l_draw.name d_l_draw.qual d_l_draw.params d_l_draw.body d_l_draw.scope [] [] (He.fAd K d_l_draw.at_) fd
  d_l_names : ∃ fd, FunD K d_l_names.name d_l_names.qual d_l_names.params d_l_names.body d_l_names.scope [] [] (He.fAd K d_l_names.at_) fd
  d_l_leaf : ∃ fd, FunD K d_l_leaf.name d_l_leaf.qual d_l_leaf.params d_l_leaf.body d_l_leaf.scope [] [] (He.fAd K d_l_leaf.at_) fd
  d_l_joined : ∃ fd, FunD K d_l_joined.name d_l_joined.qual d_l_joined.params d_l_joined.body d_l_joined.scope [] [] (He.fAd K d_l_joined.at_) fd
  d_l_condition : ∃ fd, FunD K d_l_condition.name d_l_condition.qual d_l_condition.params d_l_condition.body d_l_condition.scope [] [] (He.fAd K d_l_condition.at_) fd
  d_l_parts : ∃ fd, FunD K d_l_parts.name d_l_parts.qual d_l_parts.params d_l_parts.body d_l_parts.scope [] [] (He.fAd K d_l_parts.at_) fd
  d_l_wild : ∃ fd, FunD K d_l_wild.name d_l_wild.qual d_l_wild.params d_l_wild.body d_l_wild.scope [] [] (He.fAd K d_l_wild.at_) fd
  d_l_tree : ∃ fd, FunD K d_l_tree.name d_l_tree.qual d_l_tree.params d_l_tree.body d_l_tree.scope [] [] (He.fAd K d_l_tree.at_) fd
  d_l_bodies : ∃ fd, FunD K d_l_bodies.name d_l_bodies.qual d_l_bodies.params d_l_bodies.body d_l_bodies.scope [] [] (He.fAd K d_l_bodies.at_) fd
  d_l_scanned : ∃ fd, FunD K d_l_scanned.name d_l_scanned.qual d_l_scanned.params d_l_scanned.body d_l_scanned.scope [] [] (He.fAd K d_l_scanned.at_) fd
  d_l_fault : ∃ fd, FunD K d_l_fault.name d_l_fault.qual d_l_fault.params d_l_fault.body d_l_fault.scope [] [] (He.fAd K d_l_fault.at_) fd
  d_l_take : ∃ fd, FunD K d_l_take.name d_l_take.qual d_l_take.params d_l_take.body d_l_take.scope [] [] (He.fAd K d_l_take.at_) fd
  d_l_named : ∃ fd, FunD K d_l_named.name d_l_named.qual d_l_named.params d_l_named.body d_l_named.scope [] [] (He.fAd K d_l_named.at_) fd
  d_l_chained : ∃ fd, FunD K d_l_chained.name d_l_chained.qual d_l_chained.params d_l_chained.body d_l_chained.scope [] [] (He.fAd K d_l_chained.at_) fd
  d_l_read_unary : ∃ fd, FunD K d_l_read_unary.name d_l_read_unary.qual d_l_read_unary.params d_l_read_unary.body d_l_read_unary.scope [] [] (He.fAd K d_l_read_unary.at_) fd
  d_l_read_chain : ∃ fd, FunD K d_l_read_chain.name d_l_read_chain.qual d_l_read_chain.params d_l_read_chain.body d_l_read_chain.scope [] [] (He.fAd K d_l_read_chain.at_) fd
  d_l_read_block : ∃ fd, FunD K d_l_read_block.name d_l_read_block.qual d_l_read_block.params d_l_read_block.body d_l_read_block.scope [] [] (He.fAd K d_l_read_block.at_) fd
  d_l_read_body : ∃ fd, FunD K d_l_read_body.name d_l_read_body.qual d_l_read_body.params d_l_read_body.body d_l_read_body.scope [] [] (He.fAd K d_l_read_body.at_) fd
  d_l_read_loop : ∃ fd, FunD K d_l_read_loop.name d_l_read_loop.qual d_l_read_loop.params d_l_read_loop.body d_l_read_loop.scope [] [] (He.fAd K d_l_read_loop.at_) fd
  d_l_read_truth : ∃ fd, FunD K d_l_read_truth.name d_l_read_truth.qual d_l_read_truth.params d_l_read_truth.body d_l_read_truth.scope [] [] (He.fAd K d_l_read_truth.at_) fd
  d_l_read_jump : ∃ fd, FunD K d_l_read_jump.name d_l_read_jump.qual d_l_read_jump.params d_l_read_jump.body d_l_read_jump.scope [] [] (He.fAd K d_l_read_jump.at_) fd
  d_l_read_named : ∃ fd, FunD K d_l_read_named.name d_l_read_named.qual d_l_read_named.params d_l_read_named.body d_l_read_named.scope [] [] (He.fAd K d_l_read_named.at_) fd
  d_l_read_if : ∃ fd, FunD K d_l_read_if.name d_l_read_if.qual d_l_read_if.params d_l_read_if.body d_l_read_if.scope [] [] (He.fAd K d_l_read_if.at_) fd
  d_l_read_statement : ∃ fd, FunD K d_l_read_statement.name d_l_read_statement.qual d_l_read_statement.params d_l_read_statement.body d_l_read_statement.scope [] [] (He.fAd K d_l_read_statement.at_) fd
  d_l_text_read : ∃ fd, FunD K d_l_text_read.name d_l_text_read.qual d_l_text_read.params d_l_text_read.body d_l_text_read.scope [] [] (He.fAd K d_l_text_read.at_) fd
  d_l_spoilt_words : ∃ fd, FunD K d_l_spoilt_words.name d_l_spoilt_words.qual d_l_spoilt_words.params d_l_spoilt_words.body d_l_spoilt_words.scope [] [] (He.fAd K d_l_spoilt_words.at_) fd
  d_l_said : ∃ fd, FunD K d_l_said.name d_l_said.qual d_l_said.params d_l_said.body d_l_said.scope [] [] (He.fAd K d_l_said.at_) fd
  d_l_inside : ∃ fd, FunD K d_l_inside.name d_l_inside.qual d_l_inside.params d_l_inside.body d_l_inside.scope [] [] (He.fAd K d_l_inside.at_) fd
  d_l_sentence : ∃ fd, FunD K d_l_sentence.name d_l_sentence.qual d_l_sentence.params d_l_sentence.body d_l_sentence.scope [] [] (He.fAd K d_l_sentence.at_) fd
  d_l_spoken : ∃ fd, FunD K d_l_spoken.name d_l_spoken.qual d_l_spoken.params d_l_spoken.body d_l_spoken.scope [] [] (He.fAd K d_l_spoken.at_) fd
  d_l_spaced : ∃ fd, FunD K d_l_spaced.name d_l_spaced.qual d_l_spaced.params d_l_spaced.body d_l_spaced.scope [] [] (He.fAd K d_l_spaced.at_) fd
  d_l_told : ∃ fd, FunD K d_l_told.name d_l_told.qual d_l_told.params d_l_told.body d_l_told.scope [] [] (He.fAd K d_l_told.at_) fd
  d_law : ∃ fd, FunD K d_law.name d_law.qual d_law.params d_law.body d_law.scope [] [] (He.fAd K d_law.at_) fd
  g_bodies_of : mg "bodies_of" = some (.ref (He.ga K "bodies_of"))
  g_condition_of : mg "condition_of" = some (.ref (He.ga K "condition_of"))
  g_inner_conditions : mg "inner_conditions" = some (.ref (He.ga K "inner_conditions"))
  g_condition_parts : mg "condition_parts" = some (.ref (He.ga K "condition_parts"))
  g_condition_depth : mg "condition_depth" = some (.ref (He.ga K "condition_depth"))
  g_places : mg "places" = some (.ref (He.ga K "places"))
  g_depths : mg "depths" = some (.ref (He.ga K "depths"))
  g_is_too_large : mg "is_too_large" = some (.ref (He.ga K "is_too_large"))
  g_is_number : mg "is_number" = some (.ref (He.ga K "is_number"))
  g_end_of : mg "end_of" = some (.ref (He.ga K "end_of"))
  g_token_at : mg "token_at" = some (.ref (He.ga K "token_at"))
  g_tokens : mg "tokens" = some (.ref (He.ga K "tokens"))
  g_chained : mg "chained" = some (.ref (He.ga K "chained"))
  g_read_program : mg "read_program" = some (.ref (He.ga K "read_program"))
  g_l_tape : mg "_law_tape" = some (.ref (He.ga K "_law_tape"))
  g_l_draw : mg "_law_draw" = some (.ref (He.ga K "_law_draw"))
  g_l_names : mg "_law_names" = some (.ref (He.ga K "_law_names"))
  g_l_leaf : mg "_law_leaf" = some (.ref (He.ga K "_law_leaf"))
  g_l_joined : mg "_law_joined" = some (.ref (He.ga K "_law_joined"))
  g_l_condition : mg "_law_condition" = some (.ref (He.ga K "_law_condition"))
  g_l_parts : mg "_law_parts" = some (.ref (He.ga K "_law_parts"))
  g_l_wild : mg "_law_wild" = some (.ref (He.ga K "_law_wild"))
  g_l_tree : mg "_law_tree" = some (.ref (He.ga K "_law_tree"))
  g_l_bodies : mg "_law_bodies" = some (.ref (He.ga K "_law_bodies"))
  g_l_scanned : mg "_law_scanned" = some (.ref (He.ga K "_law_scanned"))
  g_l_fault : mg "_law_fault" = some (.ref (He.ga K "_law_fault"))
  g_l_take : mg "_law_take" = some (.ref (He.ga K "_law_take"))
  g_l_named : mg "_law_named" = some (.ref (He.ga K "_law_named"))
  g_l_chained : mg "_law_chained" = some (.ref (He.ga K "_law_chained"))
  g_l_read_unary : mg "_law_read_unary" = some (.ref (He.ga K "_law_read_unary"))
  g_l_read_chain : mg "_law_read_chain" = some (.ref (He.ga K "_law_read_chain"))
  g_l_read_block : mg "_law_read_block" = some (.ref (He.ga K "_law_read_block"))
  g_l_read_body : mg "_law_read_body" = some (.ref (He.ga K "_law_read_body"))
  g_l_read_loop : mg "_law_read_loop" = some (.ref (He.ga K "_law_read_loop"))
  g_l_read_truth : mg "_law_read_truth" = some (.ref (He.ga K "_law_read_truth"))
  g_l_read_jump : mg "_law_read_jump" = some (.ref (He.ga K "_law_read_jump"))
  g_l_read_named : mg "_law_read_named" = some (.ref (He.ga K "_law_read_named"))
  g_l_read_if : mg "_law_read_if" = some (.ref (He.ga K "_law_read_if"))
  g_l_read_statement : mg "_law_read_statement" = some (.ref (He.ga K "_law_read_statement"))
  g_l_text_read : mg "_law_text_read" = some (.ref (He.ga K "_law_text_read"))
  g_l_spoilt_words : mg "_law_spoilt_words" = some (.ref (He.ga K "_law_spoilt_words"))
  g_l_said : mg "_law_said" = some (.ref (He.ga K "_law_said"))
  g_l_inside : mg "_law_inside" = some (.ref (He.ga K "_law_inside"))
  g_l_sentence : mg "_law_sentence" = some (.ref (He.ga K "_law_sentence"))
  g_l_spoken : mg "_law_spoken" = some (.ref (He.ga K "_law_spoken"))
  g_l_spaced : mg "_law_spaced" = some (.ref (He.ga K "_law_spaced"))
  g_l_told : mg "_law_told" = some (.ref (He.ga K "_law_told"))
  g_law : mg "law" = some (.ref (He.ga K "law"))
  g_Reader : mg "Reader" = some (.ref (He.ga K "Reader"))
  g_TextError : mg "TextError" = some (.ref (He.ga K "TextError"))
  g_RESERVED : mg "RESERVED" = some (.ref (He.ga K "RESERVED"))
  g_LONG_SYMBOLS : mg "LONG_SYMBOLS" = some (.ref (He.ga K "LONG_SYMBOLS"))
  f_len : mg "len" = none
  f_sum : mg "sum" = none
  f_max : mg "max" = none
  f_min : mg "min" = none
  f_range : mg "range" = none
  f_int : mg "int" = none
  f_abs : mg "abs" = none
  f_list : mg "list" = none
  f_tuple : mg "tuple" = none
  f_repr : mg "repr" = none
  f_str : mg "str" = none
  f_isinstance : mg "isinstance" = none
  f_super : mg "super" = none
  i_MOST_PLACES : ∃ u, mg "MOST_PLACES" = some u ∧ RelV (.int 200) u
  i_DEEPEST_STATEMENT : ∃ u, mg "DEEPEST_STATEMENT" = some u ∧ RelV (.int 40) u
  i_DEEPEST_CONDITION : ∃ u, mg "DEEPEST_CONDITION" = some u ∧ RelV (.int 20) u
  i_LONGEST_NAME : ∃ u, mg "LONGEST_NAME" = some u ∧ RelV (.int 30) u
  t_LETTERS : ∃ u, mg "LETTERS" = some u ∧ RelV (.str "abcdefghijklmnopqrstuvwxyzABCDEFGHIJKLMNOPQRSTUVWXYZ") u
  t_DIGITS : ∃ u, mg "DIGITS" = some u ∧ RelV (.str "0123456789") u
  t_WORD_CHARACTERS : ∃ u, mg "WORD_CHARACTERS" = some u ∧ RelV (.str "abcdefghijklmnopqrstuvwxyzABCDEFGHIJKLMNOPQRSTUVWXYZ0123456789_") u
  t_BLANKS : ∃ u, mg "BLANKS" = some u ∧ RelV (.str " \n\t") u
  t_SYMBOLS : ∃ u, mg "SYMBOLS" = some u ∧ RelV (.str "(){};:=!") u
  cR : Cls K (He.ga K "Reader")
  mR : Mk K (He.ga K "Reader") (He.ma K (He.ga K "Reader") "__init__")
  m_text : Meth K (He.ga K "Reader") "text" (He.ma K (He.ga K "Reader") "text")
  m_is_name : Meth K (He.ga K "Reader") "is_name" (He.ma K (He.ga K "Reader") "is_name")
  m_fail : Meth K (He.ga K "Reader") "fail" (He.ma K (He.ga K "Reader") "fail")
  m_take : Meth K (He.ga K "Reader") "take" (He.ma K (He.ga K "Reader") "take")
  m_expect : Meth K (He.ga K "Reader") "expect" (He.ma K (He.ga K "Reader") "expect")
  m_contents : Meth K (He.ga K "Reader") "contents" (He.ma K (He.ga K "Reader") "contents")
  m_block : Meth K (He.ga K "Reader") "block" (He.ma K (He.ga K "Reader") "block")
  m_body : Meth K (He.ga K "Reader") "body" (He.ma K (He.ga K "Reader") "body")
  m_declaration : Meth K (He.ga K "Reader") "declaration" (He.ma K (He.ga K "Reader") "declaration")
  m_truth : Meth K (He.ga K "Reader") "truth" (He.ma K (He.ga K "Reader") "truth")
  m_statement : Meth K (He.ga K "Reader") "statement" (He.ma K (He.ga K "Reader") "statement")
  m_named : Meth K (He.ga K "Reader") "named" (He.ma K (He.ga K "Reader") "named")
  m_choice : Meth K (He.ga K "Reader") "choice" (He.ma K (He.ga K "Reader") "choice")
  m_loop : Meth K (He.ga K "Reader") "loop" (He.ma K (He.ga K "Reader") "loop")
  m_jump : Meth K (He.ga K "Reader") "jump" (He.ma K (He.ga K "Reader") "jump")
  m_ending : Meth K (He.ga K "Reader") "ending" (He.ma K (He.ga K "Reader") "ending")
  m_attempt : Meth K (He.ga K "Reader") "attempt" (He.ma K (He.ga K "Reader") "attempt")
  m_condition : Meth K (He.ga K "Reader") "condition" (He.ma K (He.ga K "Reader") "condition")
  m_conjunction : Meth K (He.ga K "Reader") "conjunction" (He.ma K (He.ga K "Reader") "conjunction")
  m_unary : Meth K (He.ga K "Reader") "unary" (He.ma K (He.ga K "Reader") "unary")
  n_row : NoAttr K (He.ga K "Reader") "row"
  n_at : NoAttr K (He.ga K "Reader") "at"
  n_end : NoAttr K (He.ga K "Reader") "end"
  v_RESERVED : ∀ H : Hp, SqT K H (He.ga K "RESERVED") (v_RESERVED.map V.str)
  v_LONG_SYMBOLS : ∀ H : Hp, SqT K H (He.ga K "LONG_SYMBOLS") (v_LONG_SYMBOLS.map V.str)
  te : TxE K mg (He.ga K "TextError")
  xf : XfC K (He.ga K "TextError")

/-! ### the Hook, the run of the top -/
abbrev Al : Type := He.AlD × (FnE × Bool)
def obsA (K : PySem.W.Frag) : Al := (He.obsD fa fn K, teW K, teB K && tuB K)
def valA : Al := (He.valD fn, teV, true)
def obsAG (g : Addr → Option Obj) : Al := obsA (He.frG g (He.asD g 5 ++ [cStatics]))
def hkA : PySem.W.Hook where
  α := Al
  obs := fun s => obsAG s.heap.get?
  val := fun _ => valA
  says := fun _ h => ∃ K : PySem.W.Frag, K.In h ∧ obsA K = valA
  of := fun _ _ e => ⟨_, He.frG_in, e⟩
  keeps := fun _ _ _ ⟨K, hK, c⟩ k => ⟨K, PySem.W.Frag.In.keeps hK k, c⟩
def obA (s : PySem.W.SharedT) : Al := obsAG (HandSHeadRun.getT s)
theorem obA_eq (s : PySem.W.SharedT) : obA s = hkA.obs s.abs := by
  have e : HandSHeadRun.getT s = s.abs.heap.get? := funext (HandSHeadRun.getT_eq s)
  show obsAG (HandSHeadRun.getT s) = obsAG s.abs.heap.get?
  rw [e]
def loose0 : List PySem.Str := ["__name__", "FlowError", "TextError", "TooLarge", "MOST_PLACES", "DEEPEST_STATEMENT", "DEEPEST_CONDITION", "bodies_of", "condition_of", "inner_conditions", "condition_parts", "condition_depth", "places"]
def loose1 : List PySem.Str := ["depths", "is_too_large", "LETTERS", "DIGITS", "WORD_CHARACTERS", "RESERVED", "LONGEST_NAME", "is_number", "BLANKS", "SYMBOLS", "LONG_SYMBOLS", "end_of", "token_at"]
def loose2 : List PySem.Str := ["tokens", "chained", "Reader", "read_program", "_law_tape", "_law_draw", "_law_names", "_law_leaf", "_law_joined", "_law_condition", "_law_parts", "_law_wild", "_law_tree"]
def loose3 : List PySem.Str := ["_law_bodies", "_law_scanned", "_law_fault", "_law_take", "_law_named", "_law_chained", "_law_read_unary", "_law_read_chain", "_law_read_block", "_law_read_body", "_law_read_loop", "_law_read_truth", "_law_read_jump"]
def loose4 : List PySem.Str := ["_law_read_named", "_law_read_if", "_law_read_statement", "_law_text_read", "_law_spoilt_words", "_law_said", "_law_inside", "_law_sentence", "_law_spoken", "_law_spaced", "_law_told"]
def loose : List PySem.Str := loose0 ++ loose1 ++ loose2 ++ loose3 ++ loose4
abbrev RW : PySem.W.OpenRow := PySem.W.OpenLaw.row PySem.Challenge.rw_flowform_k18_whole_only_tokens_matter
theorem run (w : World) : HandSHeadRun.RunEq RW (PySem.W.view RW.prog [68]) hkA obA 30000 loose w := by
  intro os
  kernel_rfl
/-! ### from the facts -/
theorem mem_fn {z : He.DefD} {l : List He.DefD} {K : PySem.W.Frag} (c : He.SaysD fa l K) (h : z ∈ l) : ∃ fd, FunD K z.name z.qual z.params z.body z.scope (z.dvs K) (z.kws K) (He.fAd K z.at_) fd := by
  obtain ⟨i, hi, e⟩ := List.mem_iff_getElem.mp h
  exact c.def_ i (d := z) (by rw [List.getElem?_eq_getElem hi, e])
theorem mem_fa {f : He.Fa} {K : PySem.W.Frag} (c : He.SaysD fa fn K) (h : f ∈ fa) : f.ok K = true := by
  obtain ⟨i, hi, e⟩ := List.mem_iff_getElem.mp h
  exact c.fact i (f := f) (by rw [List.getElem?_eq_getElem hi, e])
theorem txt_of {K : PySem.W.Frag} {h : Heap} {mg : Str → Option Value} (X : K.In h) (G : h.Ns mainGlobals mg) (e : obsA K = valA) : Txt K mg := by
  have c : He.SaysD fa fn K := congrArg (fun z : Al => z.1) e
  have ew : teW K = teV := congrArg (fun z : Al => z.2.1) e
  obtain ⟨eb, et⟩ := He.ba (show (teB K && tuB K) = true from congrArg (fun z : Al => z.2.2) e)
  have hte := te_of eb ew (He.glo_ok X G (c.fact 49 rfl)) (He.free_ok X G (c.fact 64 rfl))
  obtain ⟨et1, et2⟩ := He.ba et
  exact {
    d_bodies_of := c.def_ 0 rfl
    d_condition_of := c.def_ 1 rfl
    d_inner_conditions := c.def_ 2 rfl
    d_condition_parts := c.def_ 3 rfl
    d_condition_depth := c.def_ 4 rfl
    d_places := c.def_ 5 rfl
    d_depths := c.def_ 6 rfl
    d_is_too_large := c.def_ 7 rfl
    d_is_number := c.def_ 8 rfl
    d_end_of := c.def_ 9 rfl
    d_token_at := c.def_ 10 rfl
    d_tokens := c.def_ 11 rfl
    d_chained := c.def_ 12 rfl
    d_R_init := c.def_ 13 rfl
    d_R_text := c.def_ 14 rfl
    d_R_is_name := c.def_ 15 rfl
    d_R_fail := c.def_ 16 rfl
    d_R_take := c.def_ 17 rfl
    d_R_expect := c.def_ 18 rfl
    d_R_contents := c.def_ 19 rfl
    d_R_block := c.def_ 20 rfl
    d_R_body := c.def_ 21 rfl
    d_R_declaration := c.def_ 22 rfl
    d_R_truth := c.def_ 23 rfl
    d_R_statement := c.def_ 24 rfl
    d_R_named := c.def_ 25 rfl
    d_R_choice := c.def_ 26 rfl
    d_R_loop := c.def_ 27 rfl
    d_R_jump := c.def_ 28 rfl
    d_R_ending := c.def_ 29 rfl
    d_R_attempt := c.def_ 30 rfl
    d_R_condition := c.def_ 31 rfl
    d_R_conjunction := c.def_ 32 rfl
    d_R_unary := c.def_ 33 rfl
    d_read_program := c.def_ 34 rfl
    d_l_tape := c.def_ 35 rfl
    d_l_draw := c.def_ 36 rfl
    d_l_names := c.def_ 37 rfl
    d_l_leaf := c.def_ 38 rfl
    d_l_joined := c.def_ 39 rfl
    d_l_condition := c.def_ 40 rfl
    d_l_parts := c.def_ 41 rfl
    d_l_wild := c.def_ 42 rfl
    d_l_tree := c.def_ 43 rfl
    d_l_bodies := c.def_ 44 rfl
    d_l_scanned := c.def_ 45 rfl
    d_l_fault := c.def_ 46 rfl
    d_l_take := c.def_ 47 rfl
    d_l_named := c.def_ 48 rfl
    d_l_chained := c.def_ 49 rfl
    d_l_read_unary := c.def_ 50 rfl
    d_l_read_chain := c.def_ 51 rfl
    d_l_read_block := c.def_ 52 rfl
    d_l_read_body := c.def_ 53 rfl
    d_l_read_loop := c.def_ 54 rfl
    d_l_read_truth := c.def_ 55 rfl
    d_l_read_jump := c.def_ 56 rfl
    d_l_read_named := c.def_ 57 rfl
    d_l_read_if := c.def_ 58 rfl
    d_l_read_statement := c.def_ 59 rfl
    d_l_text_read := c.def_ 60 rfl
    d_l_spoilt_words := c.def_ 61 rfl
    d_l_said := c.def_ 62 rfl
    d_l_inside := c.def_ 63 rfl
    d_l_sentence := c.def_ 64 rfl
    d_l_spoken := c.def_ 65 rfl
    d_l_spaced := c.def_ 66 rfl
    d_l_told := c.def_ 67 rfl
    d_law := c.def_ 68 rfl
    g_bodies_of := He.glo_ok X G (c.fact 0 rfl)
    g_condition_of := He.glo_ok X G (c.fact 1 rfl)
    g_inner_conditions := He.glo_ok X G (c.fact 2 rfl)
    g_condition_parts := He.glo_ok X G (c.fact 3 rfl)
    g_condition_depth := He.glo_ok X G (c.fact 4 rfl)
    g_places := He.glo_ok X G (c.fact 5 rfl)
    g_depths := He.glo_ok X G (c.fact 6 rfl)
    g_is_too_large := He.glo_ok X G (c.fact 7 rfl)
    g_is_number := He.glo_ok X G (c.fact 8 rfl)
    g_end_of := He.glo_ok X G (c.fact 9 rfl)
    g_token_at := He.glo_ok X G (c.fact 10 rfl)
    g_tokens := He.glo_ok X G (c.fact 11 rfl)
    g_chained := He.glo_ok X G (c.fact 12 rfl)
    g_read_program := He.glo_ok X G (c.fact 13 rfl)
    g_l_tape := He.glo_ok X G (c.fact 14 rfl)
    g_l_draw := He.glo_ok X G (c.fact 15 rfl)
    g_l_names := He.glo_ok X G (c.fact 16 rfl)
    g_l_leaf := He.glo_ok X G (c.fact 17 rfl)
    g_l_joined := He.glo_ok X G (c.fact 18 rfl)
    g_l_condition := He.glo_ok X G (c.fact 19 rfl)
    g_l_parts := He.glo_ok X G (c.fact 20 rfl)
    g_l_wild := He.glo_ok X G (c.fact 21 rfl)
    g_l_tree := He.glo_ok X G (c.fact 22 rfl)
    g_l_bodies := He.glo_ok X G (c.fact 23 rfl)
    g_l_scanned := He.glo_ok X G (c.fact 24 rfl)
    g_l_fault := He.glo_ok X G (c.fact 25 rfl)
    g_l_take := He.glo_ok X G (c.fact 26 rfl)
    g_l_named := He.glo_ok X G (c.fact 27 rfl)
    g_l_chained := He.glo_ok X G (c.fact 28 rfl)
    g_l_read_unary := He.glo_ok X G (c.fact 29 rfl)
    g_l_read_chain := He.glo_ok X G (c.fact 30 rfl)
    g_l_read_block := He.glo_ok X G (c.fact 31 rfl)
    g_l_read_body := He.glo_ok X G (c.fact 32 rfl)
    g_l_read_loop := He.glo_ok X G (c.fact 33 rfl)
    g_l_read_truth := He.glo_ok X G (c.fact 34 rfl)
    g_l_read_jump := He.glo_ok X G (c.fact 35 rfl)
    g_l_read_named := He.glo_ok X G (c.fact 36 rfl)
    g_l_read_if := He.glo_ok X G (c.fact 37 rfl)
    g_l_read_statement := He.glo_ok X G (c.fact 38 rfl)
    g_l_text_read := He.glo_ok X G (c.fact 39 rfl)
    g_l_spoilt_words := He.glo_ok X G (c.fact 40 rfl)
    g_l_said := He.glo_ok X G (c.fact 41 rfl)
    g_l_inside := He.glo_ok X G (c.fact 42 rfl)
    g_l_sentence := He.glo_ok X G (c.fact 43 rfl)
    g_l_spoken := He.glo_ok X G (c.fact 44 rfl)
    g_l_spaced := He.glo_ok X G (c.fact 45 rfl)
    g_l_told := He.glo_ok X G (c.fact 46 rfl)
    g_law := He.glo_ok X G (c.fact 47 rfl)
    g_Reader := He.glo_ok X G (c.fact 48 rfl)
    g_TextError := He.glo_ok X G (c.fact 49 rfl)
    g_RESERVED := He.glo_ok X G (c.fact 50 rfl)
    g_LONG_SYMBOLS := He.glo_ok X G (c.fact 51 rfl)
    f_len := He.free_ok X G (c.fact 52 rfl)
    f_sum := He.free_ok X G (c.fact 53 rfl)
    f_max := He.free_ok X G (c.fact 54 rfl)
    f_min := He.free_ok X G (c.fact 55 rfl)
    f_range := He.free_ok X G (c.fact 56 rfl)
    f_int := He.free_ok X G (c.fact 57 rfl)
    f_abs := He.free_ok X G (c.fact 58 rfl)
    f_list := He.free_ok X G (c.fact 59 rfl)
    f_tuple := He.free_ok X G (c.fact 60 rfl)
    f_repr := He.free_ok X G (c.fact 61 rfl)
    f_str := He.free_ok X G (c.fact 62 rfl)
    f_isinstance := He.free_ok X G (c.fact 63 rfl)
    f_super := He.free_ok X G (c.fact 64 rfl)
    i_MOST_PLACES := int_gc X G (c.fact 65 rfl)
    i_DEEPEST_STATEMENT := int_gc X G (c.fact 66 rfl)
    i_DEEPEST_CONDITION := int_gc X G (c.fact 67 rfl)
    i_LONGEST_NAME := int_gc X G (c.fact 68 rfl)
    t_LETTERS := str_gc X G (c.fact 69 rfl)
    t_DIGITS := str_gc X G (c.fact 70 rfl)
    t_WORD_CHARACTERS := str_gc X G (c.fact 71 rfl)
    t_BLANKS := str_gc X G (c.fact 72 rfl)
    t_SYMBOLS := str_gc X G (c.fact 73 rfl)
    cR := He.cls_ok (c.fact 74 rfl)
    mR := He.mkr_ok (c.fact 75 rfl)
    m_text := He.meth_ok (c.fact 76 rfl)
    m_is_name := He.meth_ok (c.fact 77 rfl)
    m_fail := He.meth_ok (c.fact 78 rfl)
    m_take := He.meth_ok (c.fact 79 rfl)
    m_expect := He.meth_ok (c.fact 80 rfl)
    m_contents := He.meth_ok (c.fact 81 rfl)
    m_block := He.meth_ok (c.fact 82 rfl)
    m_body := He.meth_ok (c.fact 83 rfl)
    m_declaration := He.meth_ok (c.fact 84 rfl)
    m_truth := He.meth_ok (c.fact 85 rfl)
    m_statement := He.meth_ok (c.fact 86 rfl)
    m_named := He.meth_ok (c.fact 87 rfl)
    m_choice := He.meth_ok (c.fact 88 rfl)
    m_loop := He.meth_ok (c.fact 89 rfl)
    m_jump := He.meth_ok (c.fact 90 rfl)
    m_ending := He.meth_ok (c.fact 91 rfl)
    m_attempt := He.meth_ok (c.fact 92 rfl)
    m_condition := He.meth_ok (c.fact 93 rfl)
    m_conjunction := He.meth_ok (c.fact 94 rfl)
    m_unary := He.meth_ok (c.fact 95 rfl)
    n_row := He.noat_ok (c.fact 96 rfl)
    n_at := He.noat_ok (c.fact 97 rfl)
    n_end := He.noat_ok (c.fact 98 rfl)
    v_RESERVED := fun H => He.tupB_ok et1 H
    v_LONG_SYMBOLS := fun H => He.tupB_ok et2 H
    te := hte.1
    xf := hte.2 }
end K18

/-! S4: names of readings, the rule for a def of this text, heaps that grow. -/
namespace K18
open PySem PySem.Spec L2
open PyProof.Rows hiding St

/-! ### readings by name -/
abbrev rAddI : R2 := rI0 fun i j => .int (i + j)
abbrev rSubI : R2 := rI0 fun i j => .int (i - j)
abbrev rMulI : R2 := rI CMul fun i j => .int (i * j)
abbrev rModI : R2 := rI (fun _ j => 0 < j) fun i j => .int (i % j)
abbrev rDivI : R2 := rI CDiv fun i j => .int (i / j)
abbrev rPowI : R2 := rI CPow fun i j => .int (i ^ j.toNat)
abbrev rLtI : R2 := rI0 fun i j => .bl (decide (i < j))
abbrev rLeI : R2 := rI0 fun i j => .bl (decide (i ≤ j))
abbrev rGtI : R2 := rI0 fun i j => .bl (decide (j < i))
abbrev rGeI : R2 := rI0 fun i j => .bl (decide (j ≤ i))
abbrev rNegI : V → Hp → VK → Prop := rU fun i => .int (-i)
abbrev rAddT : R2 := fun x y H Q => ∃ i j, x = .str i ∧ y = .str j ∧ i.length + j.length ≤ sizeLine ∧ Q (.str (i ++ j)) H
abbrev rLenQ (K : PySem.W.Frag) : List V → Hp → VK → Prop := fun xs H Q => ∃ p ys, xs = [.ref p] ∧ (SqL K H p ys ∨ SqT K H p ys) ∧ Q (.int ys.length) H
abbrev rLenT : List V → Hp → VK → Prop := fun xs H Q => ∃ z, xs = [.str z] ∧ z.length ≤ sizeLine ∧ Q (.int z.length) H
abbrev rAbsI : List V → Hp → VK → Prop := fun xs H Q => ∃ i, xs = [.int i] ∧ Q (.int (if i < 0 then -i else i)) H
abbrev rMax2I : List V → Hp → VK → Prop := fun xs H Q => ∃ i j, xs = [.int i, .int j] ∧ Q (.int (if j > i then j else i)) H
abbrev rMin2I : List V → Hp → VK → Prop := fun xs H Q => ∃ i j, xs = [.int i, .int j] ∧ Q (.int (if j < i then j else i)) H
abbrev rIntI : List V → Hp → VK → Prop := fun xs H Q => (∃ i, xs = [.int i] ∧ Q (.int i) H) ∨ ∃ k, xs = [.bl k] ∧ Q (.int (if k then 1 else 0)) H
abbrev rIntS : List V → Hp → VK → Prop := fun xs H Q => ∃ a n, xs = [.str a] ∧ PySem.intText? a = some n ∧ a.length ≤ 640 ∧ Q (.int n) H
abbrev rListQ (K : PySem.W.Frag) : List V → Hp → VK → Prop := fun xs H Q => ∃ p ys, xs = [.ref p] ∧ (SqL K H p ys ∨ SqT K H p ys) ∧ ∀ l, H l = none → Q (.ref l) (upd H l (.lst ys))
abbrev rTupQ (K : PySem.W.Frag) : List V → Hp → VK → Prop := fun xs H Q => ∃ p ys, xs = [.ref p] ∧ ((SqL K H p ys ∧ ∀ l, H l = none → Q (.ref l) (upd H l (.tup ys))) ∨ (SqT K H p ys ∧ Q (.ref p) H))
abbrev rStrA : List V → Hp → VK → Prop := fun xs H Q => (∃ a, xs = [.str a] ∧ Q (.str a) H) ∨ (∃ i, xs = [.int i] ∧ i.natAbs.log2 < 1920 ∧ Q (.str (toString i)) H)
theorem call_str_any {X : Cx} : CallR X (.type "str") rStrA := CallR.or SkE.call_str_str call_str_int
theorem pe_gc {X : Cx} {x : Str} {v : V} {pos : Pos} (hg : Gl X x) (h : ∃ u, X.mg x = some u ∧ RelV v u) (hd : (x == ("__debug__" : Str)) = false := by decide) : PE X (.Name x pos) (tC v) := by
  obtain ⟨u, hm, r⟩ := h
  exact pe_glob hg hm r hd
theorem _root_.L2.Room.room {k : Nat} {A : Around} (r : Room k A) : Room k A := r
theorem _root_.L2.Room.hu {k : Nat} {A : Around} (r : Room k A) : A.units + 64 < cLine := r.units

/-! ### a def of this text: both rooms -/
structure CalO (w : World) (K : PySem.W.Frag) (mg : Str → Option Value) (base : Heap) (k : Nat) (x : Str) (sp : Sp) : Prop where
  ex : ∃ (f : Addr) (fd : FuncData) (ps : List Str), FnOk R0 w K mg base (L2.CX R0 w) k f fd ps sp ∧ mg x = some (.ref f) ∧ PySem.W.keepIn K (.ref f) = true ∧ Binds K fd ps []
theorem CalO.s {w : World} {K : PySem.W.Frag} {mg : Str → Option Value} {base : Heap} {k j : Nat} {x : Str} {sp : Sp} (c : CalO w K mg base k x sp) (h : k ≤ 10 := by omega) : CalS R0 w K mg base j x sp := by
  obtain ⟨f, fd, ps, F, r⟩ := c.ex
  exact ⟨f, fd, ps, FnS.of F h, r⟩
section
variable {X : Cx} {k j : Nat} {sp : Sp} {E : XK} {x : Str} {p pos : Pos} {e : Expr} {es : List Expr} {t : TA}
theorem pcO (hP : X.prog = R0) (c : CalO X.w X.K X.mg X.base k x sp) (hr : Room j X.A) (hk : k ≤ j) (hx : Passes (L2.CX X.prog X.w) X E) (hg : Gl X x) (ha : PA X (e :: es) t)
    (hdb : (x == ("__debug__" : Str)) = false := by decide) (he : starEach (e :: es) X.env = (false, eval e X.env) :: starEach es X.env := by rfl) (hpl : (backTo pos (starEach es X.env)).any (·.1) = false := by rfl) :
    PE X (.Call (.Name x p) (e :: es) [] pos) (tCal sp E t) := by
  obtain ⟨f, fd, ps, F, hm, kp, b⟩ := c.ex
  rw [← hP] at F
  refine ⟨fun pins s σ H Q I h => ?_⟩
  refine (pe_call F (hr.mono hk) hg hm kp b .nil hx ha hdb he hpl).run pins s σ H Q I ?_
  show t σ H fun vs H1 => sp (vs ++ []) H1 Q E
  have e1 : (fun (vs : List V) H1 => sp (vs ++ []) H1 Q E) = fun vs H1 => sp vs H1 Q E := by
    funext vs H1
    rw [List.append_nil]
  rw [e1]
  exact h
end
section
variable {w : World} {K : PySem.W.Frag} {mg : Str → Option Value} {base : Heap} {x qual : Str} {params : Arguments} {body : List Stmt} {scope : Scope} {N ps : List Str} {k : Nat} {sp : Sp} {f : Addr}
theorem bnd (h : ∀ (kV doc pm : Value) (an : Option Addr) (cdv ct : Value) (us : List Value), us.length = ps.length → bindArgs (PySem.W.fnOf x qual params body scope .none kV doc pm an cdv ct) ⟨us, []⟩ = pure (ps.zip us)) {fd : FuncData}
    (F : FunD K x qual params body scope [] [] f fd) : Binds K fd ps [] := F.bindsN h
theorem cal_s (hF : ∃ fd, FunD K x qual params body scope [] [] f fd) (hg : mg x = some (.ref f)) (S : FnScope N ps scope)
    (hb : ∀ (kV doc pm : Value) (an : Option Addr) (cdv ct : Value) (us : List Value), us.length = ps.length → bindArgs (PySem.W.fnOf x qual params body scope .none kV doc pm an cdv ct) ⟨us, []⟩ = pure (ps.zip us)) (len : ∀ vs H Q E, sp vs H Q E → vs.length = ps.length)
    (hbody : ∀ (cdv : Value) (A : Around) (outer : List Env) (s : Shared) (H : Hp) (vs : List V) (Q : VK) (E : XK), RoomS k (A.deeper (envOfC qual scope s.heap.objs.size f cdv)) → sp vs H Q E →
      ∃ t, PSs (cxS R0 w K mg base N qual scope f cdv A outer s H E) body t ∧ t { nx := fun _ H' => Q .non H', rt := Q } (start N vs) H) : CalS R0 w K mg base (k + 1) x sp := by
  obtain ⟨fd, F⟩ := hF
  exact ⟨f, fd, ps, fn_s F S len hbody, hg, F.kp, bnd hb F⟩
theorem cal_o (hF : ∃ fd, FunD K x qual params body scope [] [] f fd) (hg : mg x = some (.ref f)) (S : FnScope N ps scope)
    (hb : ∀ (kV doc pm : Value) (an : Option Addr) (cdv ct : Value) (us : List Value), us.length = ps.length → bindArgs (PySem.W.fnOf x qual params body scope .none kV doc pm an cdv ct) ⟨us, []⟩ = pure (ps.zip us)) (len : ∀ vs H Q E, sp vs H Q E → vs.length = ps.length)
    (hbody : ∀ (cdv : Value) (A : Around) (outer : List Env) (s : Shared) (H : Hp) (vs : List V) (Q : VK) (E : XK), Room k (A.deeper (envOfC qual scope s.heap.objs.size f cdv)) → sp vs H Q E →
      ∃ t, PSs (cxS R0 w K mg base N qual scope f cdv A outer s H E) body t ∧ t { nx := fun _ H' => Q .non H', rt := Q } (start N vs) H) : CalO w K mg base (k + 1) x sp := by
  obtain ⟨fd, F⟩ := hF
  exact ⟨f, fd, ps, F.ok S len hbody, hg, F.kp, bnd hb F⟩
theorem met_s {C : Addr} {m : Str} (hF : ∃ fd, FunD K m qual params body scope [] [] f fd) (c : Cls K C) (hm : Meth K C m f) (S : FnScope N ps scope)
    (hb : ∀ (kV doc pm : Value) (an : Option Addr) (cdv ct : Value) (us : List Value), us.length = ps.length → bindArgs (PySem.W.fnOf m qual params body scope .none kV doc pm an cdv ct) ⟨us, []⟩ = pure (ps.zip us)) (len : ∀ vs H Q E, sp vs H Q E → vs.length = ps.length)
    (hbody : ∀ (cdv : Value) (A : Around) (outer : List Env) (s : Shared) (H : Hp) (vs : List V) (Q : VK) (E : XK), RoomS k (A.deeper (envOfC qual scope s.heap.objs.size f cdv)) → sp vs H Q E →
      ∃ t, PSs (cxS R0 w K mg base N qual scope f cdv A outer s H E) body t ∧ t { nx := fun _ H' => Q .non H', rt := Q } (start N vs) H) : MetS R0 w K mg base (k + 1) C m sp := by
  obtain ⟨fd, F⟩ := hF
  exact ⟨f, fd, ps, fn_s F S len hbody, c, hm, bnd hb F⟩
end

/-! ### heaps that grow: all but what stands in M is kept; tuples are kept -/
structure Fr (M : List Addr) (H H' : Hp) : Prop where
  tup : ∀ a xs, H a = some (.tup xs) → H' a = some (.tup xs)
  oth : ∀ a o, H a = some o → a ∉ M → H' a = some o
section
variable {M M' : List Addr} {H H1 H2 : Hp} {a p : Addr} {o : HO}
theorem Fr.refl : Fr M H H := ⟨fun _ _ h => h, fun _ _ h _ => h⟩
theorem Fr.trans (x : Fr M H H1) (y : Fr M H1 H2) : Fr M H H2 := ⟨fun a xs h => y.tup a xs (x.tup a xs h), fun a o h n => y.oth a o (x.oth a o h n) n⟩
theorem Fr.mono (x : Fr M H H1) (h : ∀ a ∈ M, a ∈ M') : Fr M' H H1 := ⟨x.tup, fun a o e n => x.oth a o e fun z => n (h a z)⟩
theorem Fr.new (h : H p = none) : Fr M H (upd H p o) := ⟨fun a xs e => by rw [upd_ne (ne_of_none e h)]; exact e, fun a u e _ => by rw [upd_ne (ne_of_none e h)]; exact e⟩
theorem Fr.put {xs ys : List V} (h : H a = some (.lst xs)) (hm : a ∈ M) : Fr M H (upd H a (.lst ys)) :=
  ⟨fun b zs e => by rw [upd_ne (ne_of e h (by intro z; cases z))]; exact e, fun b u e n => by rw [upd_ne (show b ≠ a from fun z => n (by rw [z]; exact hm))]; exact e⟩
theorem Fr.putI {C dx : Addr} {fs gs : List (Str × V)} (h : H a = some (.ins C dx fs)) (hm : a ∈ M) : Fr M H (upd H a (.ins C dx gs)) :=
  ⟨fun b zs e => by rw [upd_ne (ne_of e h (by intro z; cases z))]; exact e, fun b u e n => by rw [upd_ne (show b ≠ a from fun z => n (by rw [z]; exact hm))]; exact e⟩
/-- what H does not know may change -/
theorem Fr.out (x : Fr M H H1) (h : H p = none) : Fr M H (upd H1 p o) := ⟨fun a xs e => by rw [upd_ne (ne_of_none e h)]; exact x.tup a xs e, fun a u e n => by rw [upd_ne (ne_of_none e h)]; exact x.oth a u e n⟩
theorem Fr.none_of (x : Fr M H H1) (h : H1 p = none) (hm : p ∉ M) : H p = none := by
  cases e : H p with
  | none => rfl
  | some o =>
    rw [x.oth p o e hm] at h
    cases h
end
theorem sqT {K : PySem.W.Frag} {H : Hp} {a : Addr} {xs : List V} (h : H a = some (.tup xs)) : SqT K H a xs := SqT.of h
theorem sqL {K : PySem.W.Frag} {H : Hp} {a : Addr} {xs : List V} (h : H a = some (.lst xs)) : SqL K H a xs := SqL.of h

/-! ### data of tuples -/
mutual
inductive TD (H : Hp) : V → PyData → Prop
  | non : TD H .non .none
  | bl (b : Bool) : TD H (.bl b) (.bool b)
  | int (i : Int) : TD H (.int i) (.int i)
  | str (x : Str) : TD H (.str x) (.str x)
  | tup {a : Addr} {xs : List V} {ds : List PyData} : H a = some (.tup xs) → TDs H xs ds → TD H (.ref a) (.tuple ds)
inductive TDs (H : Hp) : List V → List PyData → Prop
  | nil : TDs H [] []
  | cons {v : V} {vs : List V} {d : PyData} {ds : List PyData} : TD H v d → TDs H vs ds → TDs H (v :: vs) (d :: ds)
end
mutual
theorem TD.keep {H H' : Hp} (k : ∀ a xs, H a = some (.tup xs) → H' a = some (.tup xs)) : ∀ {v : V} {d : PyData}, TD H v d → TD H' v d
  | _, _, .non => .non
  | _, _, .bl b => .bl b
  | _, _, .int i => .int i
  | _, _, .str x => .str x
  | _, _, .tup h l => .tup (k _ _ h) (TDs.keep k l)
theorem TDs.keep {H H' : Hp} (k : ∀ a xs, H a = some (.tup xs) → H' a = some (.tup xs)) : ∀ {vs : List V} {ds : List PyData}, TDs H vs ds → TDs H' vs ds
  | _, _, .nil => .nil
  | _, _, .cons h l => .cons (TD.keep k h) (TDs.keep k l)
end
mutual
theorem TD.dp {K : PySem.W.Frag} {H : Hp} : ∀ {v : V} {d : PyData}, TD H v d → Dp K H v d
  | _, _, .non => .non
  | _, _, .bl b => .bl b
  | _, _, .int i => .int i
  | _, _, .str x => .str x
  | _, _, .tup h l => .tup (sqT h) (TDs.dp l)
theorem TDs.dp {K : PySem.W.Frag} {H : Hp} : ∀ {vs : List V} {ds : List PyData}, TDs H vs ds → DpAll K H vs ds
  | _, _, .nil => .nil
  | _, _, .cons h l => .cons (TD.dp h) (TDs.dp l)
end
theorem TD.fr {M : List Addr} {H H' : Hp} {v : V} {d : PyData} (h : TD H v d) (f : Fr M H H') : TD H' v d := h.keep f.tup
theorem TDs.fr {M : List Addr} {H H' : Hp} {v : List V} {d : List PyData} (h : TDs H v d) (f : Fr M H H') : TDs H' v d := h.keep f.tup
theorem TDs.append {H : Hp} : ∀ {vs : List V} {ds : List PyData} {ws : List V} {es : List PyData}, TDs H vs ds → TDs H ws es → TDs H (vs ++ ws) (ds ++ es)
  | _, _, _, _, .nil, h => h
  | _, _, _, _, .cons a l, h => .cons a (TDs.append l h)
theorem TDs.length {H : Hp} : ∀ {vs : List V} {ds : List PyData}, TDs H vs ds → vs.length = ds.length
  | _, _, .nil => rfl
  | _, _, .cons _ l => congrArg Nat.succ (TDs.length l)
end K18

/-! A1: flowform.words.is_number, flowform.tokens. -/
namespace K18
open PySem PySem.Spec L2
open PyProof.Rows hiding St
abbrev cd (w : Str) : List Nat := w.cps.toList
def LT : Str := "abcdefghijklmnopqrstuvwxyzABCDEFGHIJKLMNOPQRSTUVWXYZ"
def DG : Str := "0123456789"
def WC : Str := "abcdefghijklmnopqrstuvwxyzABCDEFGHIJKLMNOPQRSTUVWXYZ0123456789_"
def SY : Str := "(){};:=!"
def BK : Str := " \n\t"
def inS (z : Str) (c : Nat) : Bool := decide (c ∈ z.cps.toList)
/-- the codes of a token -/
inductive Wok : List Nat → Prop
  | word (c : Nat) (r : List Nat) : inS LT c = true → (∀ x ∈ r, inS WC x = true) → r.length < 30 → Wok (c :: r)
  | num1 (c : Nat) : inS DG c = true → Wok [c]
  | num2 (c d : Nat) : inS DG c = true → c ≠ 48 → inS DG d = true → Wok [c, d]
  | sym (c : Nat) : inS SY c = true → Wok [c]
  | amp : Wok [38, 38]
  | bar : Wok [124, 124]
def kd : List Nat → Str
  | c :: _ => if inS LT c = true then "word" else if inS DG c = true then "number" else "symbol"
  | [] => "symbol"
def Stop (w r : List Nat) : Prop := ∀ c d, r.head? = some c → w.getLast? = some d → inS WC d = true → inS WC c = false
inductive Lay : Nat → List Nat → List Str → List Nat → Prop
  | nil {p : Nat} {g : List Nat} : (∀ c ∈ g, inS BK c = true) → Lay p g [] []
  | cons {p : Nat} {g r : List Nat} {w : Str} {ws : List Str} {ps : List Nat} : (∀ c ∈ g, inS BK c = true) → Wok (cd w) → Stop (cd w) r → Lay (p + g.length + (cd w).length) r ws ps → Lay p (g ++ (cd w ++ r)) (w :: ws) ((p + g.length) :: ps)
theorem inS_dj : (∀ c ∈ cd LT, inS BK c = false ∧ inS WC c = true) ∧ (∀ c ∈ cd DG, inS BK c = false ∧ inS LT c = false ∧ inS WC c = true) ∧ (∀ c ∈ cd SY, inS BK c = false ∧ inS LT c = false ∧ inS DG c = false) ∧
    inS BK 38 = false ∧ inS LT 38 = false ∧ inS DG 38 = false ∧ inS SY 38 = false ∧ inS BK 124 = false ∧ inS LT 124 = false ∧ inS DG 124 = false ∧ inS SY 124 = false := by decide +kernel
theorem inS_mem {z : Str} {c : Nat} (h : inS z c = true) : c ∈ cd z := of_decide_eq_true h
theorem Wok.head {w : List Nat} (h : Wok w) : ∃ c r, w = c :: r ∧ inS BK c = false := by
  have d := inS_dj
  cases h with
  | word c r h1 => exact ⟨c, r, rfl, (d.1 c (inS_mem h1)).1⟩
  | num1 c h1 => exact ⟨c, [], rfl, (d.2.1 c (inS_mem h1)).1⟩
  | num2 c e h1 => exact ⟨c, [e], rfl, (d.2.1 c (inS_mem h1)).1⟩
  | sym c h1 => exact ⟨c, [], rfl, (d.2.2.1 c (inS_mem h1)).1⟩
  | amp => exact ⟨38, [38], rfl, d.2.2.2.1⟩
  | bar => exact ⟨124, [124], rfl, d.2.2.2.2.2.2.2.1⟩
theorem Lay.blank {p c : Nat} {r : List Nat} {ws : List Str} {ps : List Nat} (h : Lay p (c :: r) ws ps) (hc : inS BK c = true) : Lay (p + 1) r ws ps := by
  generalize e : c :: r = l at h
  cases h with
  | nil hg => 
    subst e
    exact .nil fun x hx => hg x (List.mem_cons_of_mem _ hx)
  | @cons _ g r' w ws ps hg hw hs hl =>
    cases g with
    | nil =>
      obtain ⟨c', r'', e', hb⟩ := hw.head
      rw [e'] at e
      have e2 : c = c' := (List.cons.inj e).1
      rw [e2, hb] at hc
      cases hc
    | cons c' g' =>
      obtain ⟨e1, e2⟩ := List.cons.inj (show c :: r = c' :: (g' ++ (cd w ++ r')) from e)
      subst e2
      have z := Lay.cons (p := p + 1) (g := g') (w := w) (ws := ws) (fun x hx => hg x (List.mem_cons_of_mem _ hx)) hw hs (by
        have e3 : p + 1 + g'.length + (cd w).length = p + (c' :: g').length + (cd w).length := by rw [List.length_cons]; omega
        rw [e3]
        exact hl)
      have e4 : p + 1 + g'.length = p + (c' :: g').length := by rw [List.length_cons]; omega
      rw [e4] at z
      exact z
theorem Lay.word {p c : Nat} {r : List Nat} {ws : List Str} {ps : List Nat} (h : Lay p (c :: r) ws ps) (hc : inS BK c = false) :
    ∃ w r' ws' ps', c :: r = cd w ++ r' ∧ ws = w :: ws' ∧ ps = p :: ps' ∧ Wok (cd w) ∧ Stop (cd w) r' ∧ Lay (p + (cd w).length) r' ws' ps' := by
  generalize e : c :: r = l at h
  cases h with
  | nil hg =>
    subst e
    rw [hg c (List.mem_cons_self ..)] at hc
    cases hc
  | @cons _ g r' w ws ps hg hw hs hl =>
    cases g with
    | nil => exact ⟨w, r', ws, ps, rfl, rfl, rfl, hw, hs, hl⟩
    | cons c' g' =>
      obtain ⟨e1, e2⟩ := List.cons.inj (show c :: r = c' :: (g' ++ (cd w ++ r')) from e)
      rw [e1, hg c' (List.mem_cons_self ..)] at hc
      cases hc
theorem Lay.len : ∀ {p : Nat} {l : List Nat} {ws : List Str} {ps : List Nat}, Lay p l ws ps → ws.length = ps.length ∧ ws.length ≤ l.length
  | _, _, _, _, .nil _ => ⟨rfl, Nat.zero_le _⟩
  | _, _, _, _, .cons (g := g) (w := w) (r := r) hg hw _ hl => by
    obtain ⟨h1, h2⟩ := hl.len
    obtain ⟨c, r', e, _⟩ := hw.head
    refine ⟨congrArg Nat.succ h1, ?_⟩
    rw [List.length_append, List.length_append, e, List.length_cons, List.length_cons]
    omega

/-! ### cuts of texts -/
theorem cutS_nat (z : Str) {i j : Nat} (hi : i ≤ j) (hj : j ≤ z.length) : cutS z (some (i : Int)) (some (j : Int)) = ⟨((cd z).drop i |>.take (j - i)).toArray⟩ := by
  unfold cutS
  rw [HT.sIx_nat, HT.sIx_nat, Nat.min_eq_left hj, Nat.min_eq_left (Nat.le_trans hi hj)]
theorem str_tl (z : Str) : (⟨(cd z).toArray⟩ : Str) = z := by
  obtain ⟨a⟩ := z
  simp
theorem str_len (z : Str) : z.length = (cd z).length := by
  obtain ⟨a⟩ := z
  simp [Str.length]
theorem drop_at {l : List Nat} {p : Nat} {c : Nat} {r : List Nat} (h : l.drop p = c :: r) : l[p]? = some c ∧ p < l.length ∧ l.drop (p + 1) = r := by
  have h1 : l[p]? = some c := by
    have : (l.drop p)[0]? = some c := by rw [h]; rfl
    rw [List.getElem?_drop] at this
    simpa using this
  refine ⟨h1, (List.getElem?_eq_some_iff.mp h1).1, ?_⟩
  have : l.drop (p + 1) = (l.drop p).drop 1 := by rw [List.drop_drop]
  rw [this, h]
  rfl
theorem cut_word {z w : Str} {p : Nat} {r : List Nat} (h : (cd z).drop p = cd w ++ r) : cutS z (some (p : Int)) (some ((p + (cd w).length : Nat) : Int)) = w ∧ p + (cd w).length + r.length = z.length ∨ (cd w = [] ∧ r = []) := by
  by_cases hp : p ≤ (cd z).length
  · left
    have hl : (cd w).length + r.length = (cd z).length - p := by
      have := congrArg List.length h
      rw [List.length_drop, List.length_append] at this
      omega
    refine ⟨?_, by rw [str_len]; omega⟩
    rw [cutS_nat z (Nat.le_add_right _ _) (by rw [str_len]; omega), h]
    have e : p + (cd w).length - p = (cd w).length := by omega
    rw [e, List.take_left' rfl]
  · right
    rw [List.drop_eq_nil_of_le (by omega)] at h
    exact List.append_eq_nil_iff.mp h.symm

abbrev N_is_number : List Str := ["text"]
theorem sc_is_number : FnScope N_is_number ["text"] (defScope s_is_number) := ⟨rfl, rfl, rfl, by decide +kernel, rfl, by decide +kernel, by decide +kernel⟩
def t_is_number (K : PySem.W.Frag) (E : XK)  : TS :=
  (tSeq (tIfS (tTest (tOp rEq (tCB rLenT (tCons (tVar 0) tNil)) (tC (.int 1)))) (tRet (tOp rInS (tVar 0) (tC (.str "0123456789")))) tNext)
  (tRet (tAndV (tOp rEq (tCB rLenT (tCons (tVar 0) tNil)) (tC (.int 2))) (tAndV (tOp rInS (tOp rIxS (tVar 0) (tC (.int 0))) (tC (.str "0123456789"))) (tAndV (tOp rNe (tOp rIxS (tVar 0) (tC (.int 0))) (tC (.str "0"))) (tOp rInS (tOp rIxS (tVar 0) (tC (.int 1))) (tC (.str "0123456789"))))))))
/-- a number of one digit, of two -/
def spNum : Sp := fun vs H Q _ => ∃ z : Str, vs = [.str z] ∧ ((∃ c, cd z = [c] ∧ inS DG c = true) ∨ ∃ c d, cd z = [c, d] ∧ inS DG c = true ∧ c ≠ 48 ∧ inS DG d = true) ∧ Q (.bl true) H
theorem str_of {z : Str} {l : List Nat} (h : cd z = l) : z = ⟨l.toArray⟩ := by rw [← h, str_tl]
theorem one_le : 1 ≤ sizeLine := by decide
theorem two_le : 2 ≤ sizeLine := by decide
theorem pure_num {K : PySem.W.Frag} (vs : List V) (H : Hp) (Q : VK) (E : XK) (h : spNum vs H Q E) : t_is_number K E { nx := fun _ H' => Q .non H', rt := Q } (start N_is_number vs) H := by
  obtain ⟨z, rfl, h, q⟩ := h
  rcases h with ⟨c, e, h1⟩ | ⟨c, d, e, h1, h2, h3⟩
  · have ez := str_of e
    subst ez
    refine ⟨_, rfl, _, rfl, one_le, rfl, _, rfl, ?_⟩
    refine iteT ?_
    refine ⟨_, rfl, c, _, rfl, rfl, ?_⟩
    show Q (.bl (inS DG c)) H
    rw [h1]
    exact q
  · have ez := str_of e
    subst ez
    refine ⟨_, rfl, _, rfl, two_le, rfl, _, rfl, ?_⟩
    refine iteF ?_
    refine ⟨_, rfl, _, rfl, two_le, rfl, _, rfl, iteT ?_⟩
    refine ⟨_, rfl, _, 0, c, rfl, rfl, two_le, rfl, c, _, rfl, rfl, _, rfl, ?_⟩
    show (if inS DG c = true then _ else _)
    rw [if_pos h1]
    refine ⟨_, rfl, _, 0, c, rfl, rfl, two_le, rfl, rfl, _, rfl, ?_⟩
    have n48 : (!decide (V.str ⟨#[c]⟩ = V.str "0")) = true := by
      rw [Bool.not_eq_true', decide_eq_false_iff_not]
      intro z
      have z2 : (⟨#[c]⟩ : Str) = "0" := V.str.inj z
      have z3 : cd (⟨#[c]⟩ : Str) = cd ("0" : Str) := congrArg cd z2
      exact h2 (List.cons.inj (show [c] = [48] from z3)).1
    refine (if_pos n48).mpr ?_
    refine ⟨_, rfl, _, 1, d, rfl, rfl, two_le, rfl, d, _, rfl, rfl, ?_⟩
    show Q (.bl (inS DG d)) H
    rw [h3]
    exact q
section
variable {w : World} {K : PySem.W.Frag} {mg : Str → Option Value} {base : Heap}
theorem ok_num (T : Txt K mg) : CalO w K mg base 1 "is_number" spNum := by
  refine cal_o T.d_is_number T.g_is_number sc_is_number (fun _ _ _ _ _ _ us hl => match us, hl with | [_], _ => rfl) (fun vs H Q E h => ?_) (fun cdv A outer s H vs Q E hr h => ⟨t_is_number K E, ?_, pure_num vs H Q E h⟩)
  · obtain ⟨z, rfl, _⟩ := h
    rfl
  · exact (pss_cons (ps_if (pt_cmpR op_eq (pe_callB call_len_str rfl T.f_len (by decide +kernel) (pa_cons (pv 0) pa_nil)) pe_int (nomark _)) (pss_one (ps_ret (pe_cmpR op_inS (pv 0) (pe_gc rfl T.t_DIGITS) (by rfl)))) pss_nil)
      (pss_one (ps_ret (pe_and (pe_cmpR op_eq (pe_callB call_len_str rfl T.f_len (by decide +kernel) (pa_cons (pv 0) pa_nil)) pe_int (nomark _)) (pe_and (pe_cmpR op_inS (pe_ix ix_str (pv 0) pe_int (fun _ _ => rfl)) (pe_gc rfl T.t_DIGITS) (by rfl)) (pe_and (pe_cmpR op_ne (pe_ix ix_str (pv 0) pe_int (fun _ _ => rfl)) pe_str (nomark _)) (pe_one (pe_cmpR op_inS (pe_ix ix_str (pv 0) pe_int (fun _ _ => rfl)) (pe_gc rfl T.t_DIGITS) (by rfl)))))))))
end

theorem len_cd (z : Str) (l : List Nat) {p : Nat} (h : (cd z).drop p = l) (hp : p ≤ z.length) : p + l.length = z.length := by
  have := congrArg List.length h
  rw [List.length_drop, ← str_len] at this
  omega
theorem at_cd {z : Str} {p c : Nat} {r : List Nat} (h : (cd z).drop p = c :: r) : atI (cd z) (p : Int) = some c := atI_nat (drop_at h).1
theorem iteB {b : Bool} {A B : Prop} (h1 : b = true → A) (h2 : b = false → B) : if b = true then A else B := by
  cases b with
  | true => exact h1 rfl
  | false => exact h2 rfl
theorem iteTb {b : Bool} {A B : Prop} (h : b = true) (h1 : A) : if b = true then A else B := by
  rw [if_pos h]
  exact h1
theorem iteFb {b : Bool} {A B : Prop} (h : b = false) (h1 : B) : if b = true then A else B := by
  rw [h]
  exact iteF h1
abbrev N_end_of : List Str := ["text", "place", "characters"]
theorem sc_end_of : FnScope N_end_of ["text", "place", "characters"] (defScope s_end_of) := ⟨rfl, rfl, rfl, by decide +kernel, rfl, by decide +kernel, by decide +kernel⟩
def t_end_of (K : PySem.W.Frag) (E : XK)  : TS :=
  (tSeq (tWhile (tAnd (tTest (tOp rLtI (tVar 1) (tCB rLenT (tCons (tVar 0) tNil)))) (tTest (tOp rInS (tOp rIxS (tVar 0) (tVar 1)) (tVar 2)))) (tAug 1 (tC (.int 1)) (ipI fun i j => i + j)))
  (tRet (tVar 1)))
def spEnd : Sp := fun vs H Q _ => ∃ (z chs : Str) (p : Nat) (run r : List Nat), vs = [.str z, .int (p : Int), .str chs] ∧ p ≤ z.length ∧ (cd z).drop p = run ++ r ∧ (∀ c ∈ run, inS chs c = true) ∧ (∀ c, r.head? = some c → inS chs c = false) ∧ z.length ≤ sizeLine ∧
  Q (.int ((p + run.length : Nat) : Int)) H
theorem pure_end {K : PySem.W.Frag} (vs : List V) (H : Hp) (Q : VK) (E : XK) (h : spEnd vs H Q E) : t_end_of K E { nx := fun _ H' => Q .non H', rt := Q } (start N_end_of vs) H := by
  obtain ⟨z, chs, p, run, r, rfl, hp, hd, h1, h2, hz, q⟩ := h
  refine ⟨fun m σ H' => H' = H ∧ ∃ (run' : List Nat) (p' : Nat), m = run'.length ∧ σ = [some (.str z), some (.int (p' : Int)), some (.str chs)] ∧ p' + run'.length = p + run.length ∧ p' ≤ z.length ∧ (cd z).drop p' = run' ++ r ∧ ∀ c ∈ run', inS chs c = true,
    ⟨_, rfl, run, p, rfl, rfl, rfl, hp, hd, h1⟩, ?_⟩
  rintro m σ H' ⟨rfl, run', p', rfl, rfl, e1, e0, e2, e3⟩
  have el := len_cd z _ e2 e0
  refine ⟨_, rfl, _, rfl, z, rfl, hz, _, _, rfl, rfl, _, rfl, ?_⟩
  cases run' with
  | nil =>
    rw [List.length_nil, Nat.add_zero] at e1
    subst e1
    cases r with
    | nil =>
      refine iteFb (decide_eq_false ?_) ?_
      · rw [List.length_append, List.length_nil] at el
        omega
      · refine iteF ⟨_, rfl, q⟩
    | cons c r' =>
      refine iteTb (decide_eq_true ?_) ?_
      · rw [List.length_append, List.length_nil, List.length_cons] at el
        omega
      · refine ⟨_, rfl, _, rfl, z, _, c, rfl, rfl, hz, at_cd e2, _, rfl, c, chs, rfl, rfl, _, rfl, ?_⟩
        refine iteFb (h2 c rfl) ⟨_, rfl, q⟩
  | cons c run2 =>
    refine iteTb (decide_eq_true ?_) ?_
    · rw [List.length_append, List.length_cons] at el
      omega
    · refine ⟨_, rfl, _, rfl, z, _, c, rfl, rfl, hz, at_cd e2, _, rfl, c, chs, rfl, rfl, _, rfl, ?_⟩
      refine iteTb (e3 c (List.mem_cons_self ..)) ?_
      refine ⟨fun σ' H'' => ∃ m', m' < (c :: run2).length ∧ H'' = H' ∧ ∃ (run' : List Nat) (p' : Nat), m' = run'.length ∧ σ' = [some (.str z), some (.int (p' : Int)), some (.str chs)] ∧ p' + run'.length = p + run.length ∧ p' ≤ z.length ∧ (cd z).drop p' = run' ++ r ∧ ∀ c ∈ run', inS chs c = true, fun _ _ x => x, ?_⟩
      refine ⟨_, rfl, _, _, rfl, rfl, run2.length, Nat.lt_succ_self _, rfl, run2, p' + 1, rfl, rfl, ?_, ?_, (drop_at e2).2.2, fun x hx => e3 x (List.mem_cons_of_mem _ hx)⟩
      · rw [List.length_cons] at e1
        omega
      · have := (drop_at e2).2.1
        rw [← str_len] at this
        omega
section
variable {w : World} {K : PySem.W.Frag} {mg : Str → Option Value} {base : Heap}
theorem ok_end (T : Txt K mg) : CalO w K mg base 1 "end_of" spEnd := by
  refine cal_o T.d_end_of T.g_end_of sc_end_of (fun _ _ _ _ _ _ us hl => match us, hl with | [_, _, _], _ => rfl) (fun vs H Q E h => ?_) (fun cdv A outer s H vs Q E hr h => ⟨t_end_of K E, ?_, pure_end vs H Q E h⟩)
  · obtain ⟨z, chs, p, run, r, rfl, _⟩ := h
    rfl
  · exact (pss_cons (ps_while ownE (PW.pt (pw_and (pt_cmpR op_lt (pv 1) (pe_callB call_len_str rfl T.f_len (by decide +kernel) (pa_cons (pv 0) pa_nil)) (nomark _)) (pw_and1 (pt_cmpR op_inS (pe_ix ix_str (pv 0) (pv 1) (fun _ _ => rfl)) (pv 2) (by rfl))))) (pss_one (ps_aug (i := 1) sc_end_of.nd rfl (Or.inl rfl) pe_int ip_add)))
      (pss_one (ps_ret (pv 1))))
end

abbrev N_token_at : List Str := ["text", "place", "char", "word", "number"]
theorem sc_token_at : FnScope N_token_at ["text", "place"] (defScope s_token_at) := ⟨rfl, rfl, rfl, by decide +kernel, rfl, by decide +kernel, by decide +kernel⟩
def t_token_at (K : PySem.W.Frag) (E : XK)  : TS :=
  (tSeq (tAsg (tOp rIxS (tVar 0) (tVar 1)) (gName 2))
  (tSeq (tIfS (tTest (tOp rInS (tVar 2) (tC (.str "abcdefghijklmnopqrstuvwxyzABCDEFGHIJKLMNOPQRSTUVWXYZ")))) (tSeq (tAsg (tSl rSlS (tVar 0) (tPart (tVar 1)) (tPart (tCal spEnd E (tCons (tVar 0) (tCons (tVar 1) (tCons (tC (.str "abcdefghijklmnopqrstuvwxyzABCDEFGHIJKLMNOPQRSTUVWXYZ0123456789_")) tNil)))))) (gName 3))
  (tSeq (tIfS (tTest (tOp rGtI (tCB rLenT (tCons (tVar 3) tNil)) (tC (.int 30)))) (tRaiseTE (He.ga K "TextError") E (tCons (tVar 1) (tCons (tC (.str "word too long")) tNil))) tNext)
  (tRet (tTup (tCons (tC (.str "word")) (tCons (tVar 3) (tCons (tVar 1) tNil))))))) tNext)
  (tSeq (tIfS (tTest (tOp rInS (tVar 2) (tC (.str "0123456789")))) (tSeq (tAsg (tSl rSlS (tVar 0) (tPart (tVar 1)) (tPart (tCal spEnd E (tCons (tVar 0) (tCons (tVar 1) (tCons (tC (.str "0123456789")) tNil)))))) (gName 4))
  (tSeq (tIfS (tNot (tB (tCal spNum E (tCons (tVar 4) tNil)))) (tRaiseTE (He.ga K "TextError") E (tCons (tVar 1) (tCons (tC (.str "invalid number")) tNil))) tNext)
  (tRet (tTup (tCons (tC (.str "number")) (tCons (tVar 4) (tCons (tVar 1) tNil))))))) tNext)
  (tSeq (tIfS (tTest (tOp rInS (tVar 2) (tC (.str "(){};:=!")))) (tRet (tTup (tCons (tC (.str "symbol")) (tCons (tVar 2) (tCons (tVar 1) tNil))))) tNext)
  (tSeq (tIfS (tTest (tOp (rIn K false) (tSl rSlS (tVar 0) (tPart (tVar 1)) (tPart (tOp rAddI (tVar 1) (tC (.int 2))))) (tC (.ref (He.ga K "LONG_SYMBOLS"))))) (tRet (tTup (tCons (tC (.str "symbol")) (tCons (tSl rSlS (tVar 0) (tPart (tVar 1)) (tPart (tOp rAddI (tVar 1) (tC (.int 2))))) (tCons (tVar 1) tNil))))) tNext)
  (tRaiseTE (He.ga K "TextError") E (tCons (tVar 1) (tCons (tC (.str "unexpected character")) tNil))))))))
def tokV (w : Str) (p : Nat) : List V := [.str (kd (cd w)), .str w, .int (p : Int)]
def spTok : Sp := fun vs H Q _ => ∃ (z w : Str) (p : Nat) (r : List Nat), vs = [.str z, .int (p : Int)] ∧ p ≤ z.length ∧ (cd z).drop p = cd w ++ r ∧ Wok (cd w) ∧ Stop (cd w) r ∧ z.length ≤ 1000000 ∧
  ∀ H' t, Fr [] H H' → H' t = some (.tup (tokV w p)) → Q (.ref t) H'
theorem mil {n : Nat} (h : n ≤ 1000000) : n ≤ sizeLine := Nat.le_trans h (by decide)
theorem three_le : 3 ≤ sizeLine := by decide
theorem last_mem {l : List Nat} {d : Nat} (h : l.getLast? = some d) : d ∈ l := List.mem_of_getLast? h
theorem wok_char {w : Str} {c : Nat} {r : List Nat} (h : cd w = c :: r) : w = ⟨(c :: r).toArray⟩ := str_of h
theorem pure_tok {K : PySem.W.Frag} {mg : Str → Option Value} (T : Txt K mg) (vs : List V) (H : Hp) (Q : VK) (E : XK) (h : spTok vs H Q E) : t_token_at K E { nx := fun _ H' => Q .non H', rt := Q } (start N_token_at vs) H := by
  obtain ⟨z, w, p, r, rfl, hp, hd, hw, hs, hz, q⟩ := h
  have dj := inS_dj
  have hzs := mil hz
  have el := len_cd z _ hd hp
  rw [List.length_append] at el
  have cut : cutS z (some (p : Int)) (some ((p + (cd w).length : Nat) : Int)) = w := by
    rcases cut_word hd with h | h
    · exact h.1
    · obtain ⟨c, r', e, _⟩ := hw.head
      rw [e] at h
      cases h.1
  -- char = text[place]
  have hd' := hd
  generalize ew : cd w = l at hw hs hd' el
  cases hw with
  | word c t h1 h2 h3 =>
    refine ⟨_, rfl, _, rfl, z, _, c, rfl, rfl, hzs, at_cd hd', ?_⟩
    refine ⟨_, rfl, c, _, rfl, rfl, _, rfl, iteTb (decide_eq_true (inS_mem h1)) ?_⟩
    have allw : ∀ x ∈ c :: t, inS WC x = true := by
      intro x hx
      rcases List.mem_cons.mp hx with rfl | hx
      · exact (dj.1 x (inS_mem h1)).2
      · exact h2 x hx
    refine ⟨_, rfl, _, rfl, _, rfl, _, rfl, _, rfl, z, WC, p, c :: t, r, rfl, hp, hd', allw, fun d hd2 => ?_, hzs, ?_⟩
    · cases hl : (c :: t).getLast? with
      | none => simp at hl
      | some e => exact hs d e hd2 hl (allw e (last_mem hl))
    · rw [ew] at cut
      refine ⟨_, rfl, z, rfl, hzs, ?_⟩
      rw [cut]
      have hlw : w.length ≤ 30 := by rw [str_len, ew, List.length_cons]; omega
      refine ⟨_, rfl, w, rfl, Nat.le_trans hlw (by decide), _, _, rfl, rfl, _, rfl, iteFb (decide_eq_false (by omega)) ?_⟩
      refine ⟨_, rfl, _, rfl, three_le, fun a ha => ?_⟩
      refine q _ a (Fr.new ha) ?_
      rw [upd_same]
      unfold tokV
      rw [ew]
      show _ = some (HO.tup [.str (kd (c :: t)), .str w, .int (p : Int)])
      rw [show kd (c :: t) = "word" from if_pos h1]
  | num1 c h1 =>
    have a := dj.2.1 c (inS_mem h1)
    refine ⟨_, rfl, _, rfl, z, _, c, rfl, rfl, hzs, at_cd hd', ?_⟩
    refine ⟨_, rfl, c, _, rfl, rfl, _, rfl, iteFb a.2.1 ?_⟩
    refine ⟨_, rfl, c, _, rfl, rfl, _, rfl, iteTb h1 ?_⟩
    refine ⟨_, rfl, _, rfl, _, rfl, _, rfl, _, rfl, z, DG, p, [c], r, rfl, hp, hd', fun x hx => by rw [List.mem_singleton.mp hx]; exact h1, fun d hd2 => ?_, hzs, ?_⟩
    · have b := hs d c hd2 rfl a.2.2
      cases hb : inS DG d with
      | false => rfl
      | true => rw [(dj.2.1 d (inS_mem hb)).2.2] at b; cases b
    · rw [ew] at cut
      refine ⟨_, rfl, z, rfl, hzs, ?_⟩
      rw [cut]
      refine ⟨_, rfl, w, rfl, .inl ⟨c, ew, h1⟩, true, rfl, iteFb rfl ?_⟩
      refine ⟨_, rfl, _, rfl, three_le, fun a' ha => ?_⟩
      refine q _ a' (Fr.new ha) ?_
      rw [upd_same]
      unfold tokV
      rw [ew, show kd [c] = "number" from (if_neg (by rw [a.2.1]; exact Bool.false_ne_true)).trans (if_pos h1)]
  | num2 c e h1 h2 h3 =>
    have a := dj.2.1 c (inS_mem h1)
    have a2 := dj.2.1 e (inS_mem h3)
    refine ⟨_, rfl, _, rfl, z, _, c, rfl, rfl, hzs, at_cd hd', ?_⟩
    refine ⟨_, rfl, c, _, rfl, rfl, _, rfl, iteFb a.2.1 ?_⟩
    refine ⟨_, rfl, c, _, rfl, rfl, _, rfl, iteTb h1 ?_⟩
    refine ⟨_, rfl, _, rfl, _, rfl, _, rfl, _, rfl, z, DG, p, [c, e], r, rfl, hp, hd', fun x hx => ?_, fun d hd2 => ?_, hzs, ?_⟩
    · rcases List.mem_cons.mp hx with rfl | hx
      · exact h1
      · rw [List.mem_singleton.mp hx]
        exact h3
    · have b := hs d e hd2 rfl a2.2.2
      cases hb : inS DG d with
      | false => rfl
      | true => rw [(dj.2.1 d (inS_mem hb)).2.2] at b; cases b
    · rw [ew] at cut
      refine ⟨_, rfl, z, rfl, hzs, ?_⟩
      rw [cut]
      refine ⟨_, rfl, w, rfl, .inr ⟨c, e, ew, h1, h2, h3⟩, true, rfl, iteFb rfl ?_⟩
      refine ⟨_, rfl, _, rfl, three_le, fun a' ha => ?_⟩
      refine q _ a' (Fr.new ha) ?_
      rw [upd_same]
      unfold tokV
      rw [ew, show kd [c, e] = "number" from (if_neg (by rw [a.2.1]; exact Bool.false_ne_true)).trans (if_pos h1)]
  | sym c h1 =>
    have a := dj.2.2.1 c (inS_mem h1)
    refine ⟨_, rfl, _, rfl, z, _, c, rfl, rfl, hzs, at_cd hd', ?_⟩
    refine ⟨_, rfl, c, _, rfl, rfl, _, rfl, iteFb a.2.1 ?_⟩
    refine ⟨_, rfl, c, _, rfl, rfl, _, rfl, iteFb a.2.2 ?_⟩
    refine ⟨_, rfl, c, _, rfl, rfl, _, rfl, iteTb h1 ?_⟩
    refine ⟨_, rfl, _, rfl, three_le, fun a' ha => ?_⟩
    refine q _ a' (Fr.new ha) ?_
    rw [upd_same]
    unfold tokV
    rw [ew, str_of ew, show kd [c] = "symbol" from (if_neg (by rw [a.2.1]; exact Bool.false_ne_true)).trans (if_neg (by rw [a.2.2]; exact Bool.false_ne_true))]
  | amp =>
    have ez := str_of ew
    refine ⟨_, rfl, _, rfl, z, _, 38, rfl, rfl, hzs, at_cd hd', ?_⟩
    refine ⟨_, rfl, 38, _, rfl, rfl, _, rfl, iteFb dj.2.2.2.2.1 ?_⟩
    refine ⟨_, rfl, 38, _, rfl, rfl, _, rfl, iteFb dj.2.2.2.2.2.1 ?_⟩
    refine ⟨_, rfl, 38, _, rfl, rfl, _, rfl, iteFb dj.2.2.2.2.2.2.1 ?_⟩
    rw [ew] at cut
    have e2 : ((p : Int) + 2) = ((p + [38, 38].length : Nat) : Int) := by simp
    refine ⟨_, rfl, _, rfl, _, rfl, _, rfl, _, _, rfl, rfl, _, rfl, z, rfl, hzs, ?_⟩
    rw [e2, cut]
    refine ⟨_, _, rfl, .inr (T.v_LONG_SYMBOLS _), rfl, by decide +kernel, _, rfl, ?_⟩
    subst ez
    refine iteTb (by decide +kernel) ?_
    refine ⟨_, rfl, _, rfl, _, rfl, _, rfl, _, _, rfl, rfl, _, rfl, z, rfl, hzs, ?_⟩
    rw [e2, cut]
    refine ⟨_, rfl, three_le, fun a' ha => ?_⟩
    exact q _ a' (Fr.new ha) upd_same
  | bar =>
    have ez := str_of ew
    refine ⟨_, rfl, _, rfl, z, _, 124, rfl, rfl, hzs, at_cd hd', ?_⟩
    refine ⟨_, rfl, 124, _, rfl, rfl, _, rfl, iteFb dj.2.2.2.2.2.2.2.2.1 ?_⟩
    refine ⟨_, rfl, 124, _, rfl, rfl, _, rfl, iteFb dj.2.2.2.2.2.2.2.2.2.1 ?_⟩
    refine ⟨_, rfl, 124, _, rfl, rfl, _, rfl, iteFb dj.2.2.2.2.2.2.2.2.2.2 ?_⟩
    rw [ew] at cut
    have e2 : ((p : Int) + 2) = ((p + [124, 124].length : Nat) : Int) := by simp
    refine ⟨_, rfl, _, rfl, _, rfl, _, rfl, _, _, rfl, rfl, _, rfl, z, rfl, hzs, ?_⟩
    rw [e2, cut]
    refine ⟨_, _, rfl, .inr (T.v_LONG_SYMBOLS _), rfl, by decide +kernel, _, rfl, ?_⟩
    subst ez
    refine iteTb (by decide +kernel) ?_
    refine ⟨_, rfl, _, rfl, _, rfl, _, rfl, _, _, rfl, rfl, _, rfl, z, rfl, hzs, ?_⟩
    rw [e2, cut]
    refine ⟨_, rfl, three_le, fun a' ha => ?_⟩
    exact q _ a' (Fr.new ha) upd_same
section
variable {w : World} {K : PySem.W.Frag} {mg : Str → Option Value} {base : Heap}
theorem ok_tok (T : Txt K mg) : CalO w K mg base 2 "token_at" spTok := by
  refine cal_o T.d_token_at T.g_token_at sc_token_at (fun _ _ _ _ _ _ us hl => match us, hl with | [_, _], _ => rfl) (fun vs H Q E h => ?_) (fun cdv A outer s H vs Q E hr h => ⟨t_token_at K E, ?_, pure_tok T vs H Q E h⟩)
  · obtain ⟨z, w, p, r, rfl, _⟩ := h
    rfl
  · exact (pss_cons (ps_set (i := 2) sc_token_at.nd rfl (Or.inl rfl) (pe_ix ix_str (pv 0) (pv 1) (fun _ _ => rfl)))
      (pss_cons (ps_if (pt_cmpR op_inS (pv 2) (pe_gc rfl T.t_LETTERS) (by rfl)) (pss_cons (ps_set (i := 3) sc_token_at.nd rfl (Or.inl rfl) (pe_slice sl_str (pv 0) (po_some (pv 1)) (po_some (pcO rfl (ok_end T) hr (by omega) passE rfl (pa_cons (pv 0) (pa_cons (pv 1) (pa_cons (pe_gc rfl T.t_WORD_CHARACTERS) pa_nil)))))))
      (pss_cons (ps_if (pt_cmpR op_gt (pe_callB call_len_str rfl T.f_len (by decide +kernel) (pa_cons (pv 3) pa_nil)) (pe_gc rfl T.i_LONGEST_NAME) (nomark _)) (pss_one (ps_raiseTE rfl rfl T.te hr.room takesE (pa_cons (pv 1) (pa_cons pe_str pa_nil)) rfl)) pss_nil)
      (pss_one (ps_ret (pe_tup (pa_cons pe_str (pa_cons (pv 3) (pa_cons (pv 1) pa_nil)))))))) pss_nil)
      (pss_cons (ps_if (pt_cmpR op_inS (pv 2) (pe_gc rfl T.t_DIGITS) (by rfl)) (pss_cons (ps_set (i := 4) sc_token_at.nd rfl (Or.inl rfl) (pe_slice sl_str (pv 0) (po_some (pv 1)) (po_some (pcO rfl (ok_end T) hr (by omega) passE rfl (pa_cons (pv 0) (pa_cons (pv 1) (pa_cons (pe_gc rfl T.t_DIGITS) pa_nil)))))))
      (pss_cons (ps_if (pt_not (pt_val (pcO rfl (ok_num T) hr (by omega) passE rfl (pa_cons (pv 4) pa_nil)))) (pss_one (ps_raiseTE rfl rfl T.te hr.room takesE (pa_cons (pv 1) (pa_cons pe_str pa_nil)) rfl)) pss_nil)
      (pss_one (ps_ret (pe_tup (pa_cons pe_str (pa_cons (pv 4) (pa_cons (pv 1) pa_nil)))))))) pss_nil)
      (pss_cons (ps_if (pt_cmpR op_inS (pv 2) (pe_gc rfl T.t_SYMBOLS) (by rfl)) (pss_one (ps_ret (pe_tup (pa_cons pe_str (pa_cons (pv 2) (pa_cons (pv 1) pa_nil)))))) pss_nil)
      (pss_cons (ps_if (pt_cmpR op_in_seq (pe_slice sl_str (pv 0) (po_some (pv 1)) (po_some (pe_op op_add (pv 1) pe_int))) (pe_gc rfl ⟨_, T.g_LONG_SYMBOLS, rfl⟩) (by rfl)) (pss_one (ps_ret (pe_tup (pa_cons pe_str (pa_cons (pe_slice sl_str (pv 0) (po_some (pv 1)) (po_some (pe_op op_add (pv 1) pe_int))) (pa_cons (pv 1) pa_nil)))))) pss_nil)
      (pss_one (ps_raiseTE rfl rfl T.te hr.room takesE (pa_cons (pv 1) (pa_cons pe_str pa_nil)) rfl)))))))
end

abbrev N_tokens : List Str := ["text", "found", "place", "token"]
theorem sc_tokens : FnScope N_tokens ["text"] (defScope s_tokens) := ⟨rfl, rfl, rfl, by decide +kernel, rfl, by decide +kernel, by decide +kernel⟩
def t_tokens (K : PySem.W.Frag) (E : XK)  : TS :=
  (tSeq (tAsg (tLst tNil) (gName 1))
  (tSeq (tAsg (tC (.int 0)) (gName 2))
  (tSeq (tWhile (tTest (tOp rLtI (tVar 2) (tCB rLenT (tCons (tVar 0) tNil)))) (tIfS (tTest (tOp rInS (tOp rIxS (tVar 0) (tVar 2)) (tC (.str " \n\t")))) (tAug 2 (tC (.int 1)) (ipI fun i j => i + j)) (tSeq (tAsg (tCal spTok E (tCons (tVar 0) (tCons (tVar 2) tNil))) (gName 3))
  (tSeq (tDrop (tBM K "list" rAppend (tVar 1) (tCons (tVar 3) tNil)))
  (tAug 2 (tCB rLenT (tCons (tOp (rIxT K) (tVar 3) (tC (.int 1))) tNil)) (ipI fun i j => i + j))))))
  (tRet (tCB (rTupQ K) (tCons (tVar 1) tNil))))))
/-- a row of tokens -/
inductive Us (H : Hp) : List V → List Str → List Nat → Prop
  | nil : Us H [] [] []
  | cons {a : Addr} {us : List V} {w : Str} {p : Nat} {ws : List Str} {ps : List Nat} : H a = some (.tup (tokV w p)) → Us H us ws ps → Us H (.ref a :: us) (w :: ws) (p :: ps)
theorem Us.fr {M : List Addr} {H H' : Hp} (f : Fr M H H') : ∀ {us : List V} {ws : List Str} {ps : List Nat}, Us H us ws ps → Us H' us ws ps
  | _, _, _, .nil => .nil
  | _, _, _, .cons h l => .cons (f.tup _ _ h) (l.fr f)
theorem Us.snoc {H : Hp} {a : Addr} {w : Str} {p : Nat} (h : H a = some (.tup (tokV w p))) : ∀ {us : List V} {ws : List Str} {ps : List Nat}, Us H us ws ps → Us H (us ++ [.ref a]) (ws ++ [w]) (ps ++ [p])
  | _, _, _, .nil => .cons h .nil
  | _, _, _, .cons h' l => .cons h' (l.snoc h)
theorem Us.len {H : Hp} : ∀ {us : List V} {ws : List Str} {ps : List Nat}, Us H us ws ps → us.length = ws.length ∧ ps.length = ws.length
  | _, _, _, .nil => ⟨rfl, rfl⟩
  | _, _, _, .cons _ l => ⟨congrArg Nat.succ l.len.1, congrArg Nat.succ l.len.2⟩
theorem Us.get {H : Hp} : ∀ {us : List V} {ws : List Str} {ps : List Nat}, Us H us ws ps → ∀ {i : Nat} {w : Str}, ws[i]? = some w → ∃ a p, us[i]? = some (.ref a) ∧ ps[i]? = some p ∧ H a = some (.tup (tokV w p))
  | _, _, _, .nil, i, w, h => by simp at h
  | _, _, _, .cons (a := a) (p := p) h l, 0, w, e => by
    simp only [List.getElem?_cons_zero, Option.some.injEq] at e
    subst e
    exact ⟨a, p, rfl, rfl, h⟩
  | _, _, _, .cons h l, i + 1, w, e => by
    simp only [List.getElem?_cons_succ] at e ⊢
    exact l.get e
def spTokens : Sp := fun vs H Q _ => ∃ (z : Str) (ws : List Str) (ps : List Nat), vs = [.str z] ∧ Lay 0 (cd z) ws ps ∧ z.length ≤ 1000000 ∧ ∀ H' t us, Fr [] H H' → H' t = some (.tup us) → Us H' us ws ps → Q (.ref t) H'
/-- between two turns of tokens -/
def TkW (z : Str) (ws : List Str) (ps : List Nat) (H : Hp) (f : Addr) (m : Nat) (σ : L2.St) (H' : Hp) : Prop := ∃ (p : Nat) (us : List V) (w1 w2 : List Str) (p1 p2 : List Nat) (tk : Option V), m = z.length - p ∧ σ = [some (.str z), some (.ref f), some (.int (p : Int)), tk] ∧
  p ≤ z.length ∧ Fr [] H H' ∧ H' f = some (.lst us) ∧ Us H' us w1 p1 ∧ Lay p ((cd z).drop p) w2 p2 ∧ w1 ++ w2 = ws ∧ p1 ++ p2 = ps
theorem pure_tokens {K : PySem.W.Frag} {mg : Str → Option Value} (T : Txt K mg) (vs : List V) (H : Hp) (Q : VK) (E : XK) (h : spTokens vs H Q E) : t_tokens K E { nx := fun _ H' => Q .non H', rt := Q } (start N_tokens vs) H := by
  obtain ⟨z, ws, ps, rfl, hL, hz, q⟩ := h
  have hzs := mil hz
  -- found = [], place = 0
  refine ⟨by decide, fun f hf => ?_⟩
  refine ⟨TkW z ws ps H f, ⟨_, 0, [], [], ws, [], ps, none, rfl, rfl, Nat.zero_le _, Fr.new hf, upd_same, .nil, hL, rfl, rfl⟩, ?_⟩
  rintro m σ H1 ⟨p, us, w1, w2, p1, p2, tk, rfl, rfl, hp, fr, hl, hu, hLp, ew, ep⟩
  have el := len_cd z _ rfl hp
  refine ⟨_, rfl, _, rfl, z, rfl, hzs, _, _, rfl, rfl, _, rfl, ?_⟩
  generalize ed : (cd z).drop p = l at hLp el
  cases l with
  | nil =>
    rw [List.length_nil] at el
    refine iteFb (decide_eq_false (by omega)) ?_
    cases w2 with
    | nil =>
      cases p2 with
      | nil =>
        rw [List.append_nil] at ew ep
        subst ew ep
        refine ⟨_, rfl, f, us, rfl, .inl ⟨sqL hl, fun t ht => ?_⟩⟩
        exact q _ t us (fr.trans (Fr.new ht)) upd_same (hu.fr (Fr.new (M := []) ht))
      | cons _ _ =>
        have := hLp.len.1
        simp at this
    | cons _ _ =>
      have := hLp.len.2
      simp at this
  | cons c r =>
    rw [List.length_cons] at el
    refine iteTb (decide_eq_true (by omega)) ?_
    refine ⟨fun σ' H'' => ∃ m', m' < z.length - p ∧ TkW z ws ps H f m' σ' H'', fun _ _ x => x, ?_⟩
    refine ⟨_, rfl, _, rfl, z, _, c, rfl, rfl, hzs, at_cd ed, c, _, rfl, rfl, _, rfl, ?_⟩
    refine iteB (fun hb => ?_) fun hb => ?_
    · -- a blank
      have hb' : inS BK c = true := hb
      refine ⟨_, rfl, _, _, rfl, rfl, z.length - (p + 1), by omega, p + 1, us, w1, w2, p1, p2, tk, rfl, rfl, by omega, fr, hl, hu, ?_, ew, ep⟩
      rw [(drop_at ed).2.2]
      exact hLp.blank hb'
    · -- a token
      have hb' : inS BK c = false := hb
      obtain ⟨w, r', ws', ps', e1, rfl, rfl, hw, hs, hl2⟩ := hLp.word hb'
      have e2 : (cd z).drop p = cd w ++ r' := ed.trans e1
      have el2 : p + (cd w).length + r'.length = z.length := by
        have := len_cd z _ e2 hp
        rw [List.length_append] at this
        omega
      obtain ⟨c0, r0, ec0, _⟩ := hw.head
      have hw1 : 1 ≤ (cd w).length := by rw [ec0, List.length_cons]; omega
      refine ⟨_, rfl, _, rfl, z, w, p, r', rfl, hp, e2, hw, hs, hz, fun H2 t fr2 ht => ?_⟩
      have hf2 : H2 f = some (.lst us) := fr2.oth _ _ hl (by simp)
      have hus := hu.fr fr2
      have hlen : us.length < sizeLine := by
        have a := hus.len.1
        have b := hL.len.2
        rw [← ew, List.length_append] at b
        have c := str_len z
        exact Nat.lt_of_le_of_lt (show us.length ≤ 1000000 by omega) (by decide)
      refine ⟨_, rfl, .inl ⟨rfl, _, sqL hf2⟩, _, rfl, f, us, .ref t, rfl, rfl, hf2, hlen, ?_⟩
      have hne : t ≠ f := ne_of ht hf2 (by intro x; cases x)
      have fr3 : Fr [f] H2 (upd H2 f (.lst (us ++ [.ref t]))) := Fr.put hf2 (List.mem_singleton.mpr rfl)
      have ht3 := fr3.tup _ _ ht
      refine ⟨_, rfl, _, rfl, t, tokV w p, 1, .str w, rfl, rfl, sqT ht3, rfl, w, rfl, ?_, _, _, rfl, rfl, ?_⟩
      · exact mil (by rw [str_len]; have := str_len z; omega)
      · refine ⟨z.length - (p + (cd w).length), by omega, p + (cd w).length, us ++ [.ref t], w1 ++ [w], ws', p1 ++ [p], ps', some (.ref t), rfl, ?_, by omega, (fr.trans fr2).out hf, upd_same, (hus.fr fr3).snoc ht3, ?_, ?_, ?_⟩
        · show [some (V.str z), some (V.ref f), some (V.int ((p : Int) + (w.length : Int))), some (V.ref t)] = _
          rw [str_len w]
          congr 3
        · have e3 : (cd z).drop (p + (cd w).length) = r' := by
            rw [← List.drop_drop, e2, List.drop_left]
          rw [e3]
          exact hl2
        · rw [← ew]
          simp
        · rw [← ep]
          simp
section
variable {w : World} {K : PySem.W.Frag} {mg : Str → Option Value} {base : Heap}
theorem ok_tokens (T : Txt K mg) : CalO w K mg base 3 "tokens" spTokens := by
  refine cal_o T.d_tokens T.g_tokens sc_tokens (fun _ _ _ _ _ _ us hl => match us, hl with | [_], _ => rfl) (fun vs H Q E h => ?_) (fun cdv A outer s H vs Q E hr h => ⟨t_tokens K E, ?_, pure_tokens T vs H Q E h⟩)
  · obtain ⟨z, ws, ps, rfl, _⟩ := h
    rfl
  · exact (pss_cons (ps_set (i := 1) sc_tokens.nd rfl (Or.inl rfl) (pe_lst pa_nil))
      (pss_cons (ps_set (i := 2) sc_tokens.nd rfl (Or.inl rfl) pe_int)
      (pss_cons (ps_while ownE (pt_cmpR op_lt (pv 2) (pe_callB call_len_str rfl T.f_len (by decide +kernel) (pa_cons (pv 0) pa_nil)) (nomark _)) (pss_one (ps_if (pt_cmpR op_inS (pe_ix ix_str (pv 0) (pv 2) (fun _ _ => rfl)) (pe_gc rfl T.t_BLANKS) (by rfl)) (pss_one (ps_aug (i := 2) sc_tokens.nd rfl (Or.inl rfl) pe_int ip_add)) (pss_cons (ps_set (i := 3) sc_tokens.nd rfl (Or.inl rfl) (pcO rfl (ok_tok T) hr (by omega) passE rfl (pa_cons (pv 0) (pa_cons (pv 2) pa_nil))))
      (pss_cons (ps_expr (pe_bm PySem.F.plainAttrs_list PySem.F.slot_list_append PySem.F.type_list_append mt_append (pv 1) (pa_cons (pv 3) pa_nil)))
      (pss_one (ps_aug (i := 2) sc_tokens.nd rfl (Or.inl rfl) (pe_callB call_len_str rfl T.f_len (by decide +kernel) (pa_cons (pe_ix ix_tup (pv 3) pe_int (fun _ _ => rfl)) pa_nil)) ip_add)))))))
      (pss_one (ps_ret (pe_callTy call_tuple_of rfl T.f_tuple (by decide +kernel) (pa_cons (pv 1) pa_nil)))))))
end
end K18

/-! M0: the mirror: how a row of words is read. -/
namespace K18
open PySem PySem.Spec L2
open PyProof.Rows hiding St

inductive Rs (α : Type) where
  | ok (a : α) (j : Nat)
  | no (k : Nat) (r : Str)
def Rs.bind {α β : Type} : Rs α → (α → Nat → Rs β) → Rs β
  | .ok a j, f => f a j
  | .no k r, _ => .no k r
inductive Cn where
  | call (n : Str)
  | flag (n : Str)
  | neg (c : Cn)
  | chn (a : Bool) (cs : List Cn)
inductive Sm where
  | call (n : Str)
  | dcl (n : Str) (b : Bool)
  | set (n : Str) (b : Bool)
  | ite (c : Cn) (f s : List Sm)
  | whl (l : Option Str) (c : Cn) (b : List Sm)
  | frl (l : Option Str) (b : List Sm)
  | jmp (w : Str) (l : Option Str)
  | ret (n : Option Int)
  | tri (b l : List Sm)
  | blk (b : List Sm)
mutual
def Cn.data : Cn → PyData
  | .call n => .tuple [.str "call", .str n]
  | .flag n => .tuple [.str "flag", .str n]
  | .neg c => .tuple [.str "not", Cn.data c]
  | .chn a cs => .tuple [.str (if a then "and" else "or"), .tuple (Cn.datas cs)]
def Cn.datas : List Cn → List PyData
  | [] => []
  | c :: r => Cn.data c :: Cn.datas r
end
def optS : Option Str → PyData
  | none => .none
  | some l => .str l
def optI : Option Int → PyData
  | none => .none
  | some l => .int l
mutual
def Sm.data : Sm → PyData
  | .call n => .tuple [.str "call", .str n]
  | .dcl n b => .tuple [.str "let", .str n, .bool b]
  | .set n b => .tuple [.str "set", .str n, .bool b]
  | .ite c f s => .tuple [.str "if", c.data, .tuple (Sm.datas f), .tuple (Sm.datas s)]
  | .whl l c b => .tuple [.str "while", optS l, c.data, .tuple (Sm.datas b)]
  | .frl l b => .tuple [.str "for", optS l, .tuple (Sm.datas b)]
  | .jmp w l => .tuple [.str w, optS l]
  | .ret n => .tuple [.str "return", optI n]
  | .tri b l => .tuple [.str "try", .tuple (Sm.datas b), .tuple (Sm.datas l)]
  | .blk b => .tuple [.str "block", .tuple (Sm.datas b)]
def Sm.datas : List Sm → List PyData
  | [] => []
  | c :: r => Sm.data c :: Sm.datas r
end
theorem Cn.datas_map : ∀ l : List Cn, Cn.datas l = l.map Cn.data
  | [] => by simp [Cn.datas]
  | c :: r => by simp [Cn.datas, Cn.datas_map r]
theorem Sm.datas_map : ∀ l : List Sm, Sm.datas l = l.map Sm.data
  | [] => by simp [Sm.datas]
  | c :: r => by simp [Sm.datas, Sm.datas_map r]

section
variable (ws : List Str)
def tk (i : Nat) : Str := ws.getD i ""
def isNm (w : Str) : Bool := decide (kd (cd w) = "word") && !inV (.str w) (v_RESERVED.map V.str)
def nested : Str := "nested too deeply"
def xpt (t : Str) (i : Nat) : Rs Unit := if tk ws i = t then .ok () (i + 1) else .no i ("expected " ++ t)
def isN (i : Nat) : Bool := decide (i < ws.length) && isNm (tk ws i)
/-- a chain of the same kind is joined -/
def fl (a : Bool) : Cn → List Cn
  | .chn b cs => if b = a then cs else [.chn b cs]
  | c => [c]
def chd (a : Bool) : List Cn → Cn
  | [c] => c
  | l => .chn a (l.flatMap (fl a))
def leaf (i : Nat) : Rs Cn :=
  if isN ws i = true then (if tk ws (i + 1) = "(" then (xpt ws ")" (i + 2)).bind fun _ j => .ok (.call (tk ws i)) j else .ok (.flag (tk ws i)) (i + 1)) else .no i "expected a condition"
/-- operands joined by sep -/
def chl {α : Type} (u : Nat → Rs α) (sep : Str) : Nat → Nat → List α → Rs (List α)
  | 0, i, _ => .no i ""
  | f + 1, i, acc => (u i).bind fun c j => if tk ws j = sep then chl u sep f (j + 1) (acc ++ [c]) else .ok (acc ++ [c]) j
def row (u : Nat → Rs Cn) (i : Nat) : Rs (List Cn) := chl ws u "&&" (ws.length + 1) i []
def cnd (u : Nat → Rs Cn) (i : Nat) : Rs Cn := (chl ws (row ws u) "||" (ws.length + 1) i []).bind fun rs j => .ok (chd false (rs.map (chd true))) j
def uny : Nat → Nat → Rs Cn
  | 0, i => if tk ws i = "!" ∨ tk ws i = "(" then .no i nested else leaf ws i
  | r + 1, i => if tk ws i = "!" then (uny r (i + 1)).bind fun c j => .ok (.neg c) j
    else if tk ws i = "(" then (cnd ws (uny r) (i + 1)).bind fun c j => (xpt ws ")" j).bind fun _ k => .ok c k
    else leaf ws i
def tru (i : Nat) : Rs Bool := if tk ws i = "true" then .ok true (i + 1) else if tk ws i = "false" then .ok false (i + 1) else .no i "expected true or false"
def dcl (i : Nat) : Rs Sm := if isN ws (i + 1) = true then (xpt ws "=" (i + 2)).bind fun _ j => (tru ws j).bind fun b k => (xpt ws ";" k).bind fun _ l => .ok (.dcl (tk ws (i + 1)) b) l else .no (i + 1) "expected a name"
def jmp (i : Nat) : Rs Sm := if isN ws (i + 1) = true then (xpt ws ";" (i + 2)).bind fun _ j => .ok (.jmp (tk ws i) (some (tk ws (i + 1)))) j
  else if tk ws (i + 1) = ";" then .ok (.jmp (tk ws i) none) (i + 2) else .no (i + 1) "expected a label or ;"
def dgt (c : Nat) : Int := (c : Int) - 48
/-- what a number's text denotes -/
def numV (w : Str) : Int := match cd w with
  | [c] => dgt c
  | [c, d] => dgt c * 10 + dgt d
  | _ => 0
def fin (i : Nat) : Rs Sm := if i + 1 < ws.length ∧ kd (cd (tk ws (i + 1))) = "number" then (xpt ws ";" (i + 2)).bind fun _ j => .ok (.ret (some (numV (tk ws (i + 1))))) j
  else if tk ws (i + 1) = ";" then .ok (.ret none) (i + 2) else .no (i + 1) "expected a number or ;"
/-- statements up to the closing word -/
def cts (item : Nat → Rs (List Sm)) (cl : Str) : Nat → Nat → List Sm → Rs (List Sm)
  | 0, i, _ => .no i ""
  | f + 1, i, acc => if tk ws i = cl then .ok acc i else if tk ws i = "" then .no i "expected }" else (item i).bind fun l j => cts item cl f j (acc ++ l)
def blc (item : Nat → Rs (List Sm)) (i : Nat) : Rs (List Sm) := (xpt ws "{" i).bind fun _ j => (cts ws item "}" (ws.length + 1) j []).bind fun l k => (xpt ws "}" k).bind fun _ m => .ok l m
/-- at a level: s reads a statement there (none may stand there at level 0) -/
def item (s : Nat → Nat → Rs (List Sm)) : Nat → Nat → Rs (List Sm)
  | 0, i => .no i nested
  | R + 1, i => if tk ws i = "let" then (dcl ws i).bind fun d j => .ok [d] j else s (R + 1) i
def bdy (s : Nat → Nat → Rs (List Sm)) (R : Nat) (i : Nat) : Rs (List Sm) := if tk ws i = "{" then blc ws (item ws s R) i else match R with
  | 0 => .no i nested
  | R + 1 => if tk ws i = "let" then .no i "let is not allowed here" else s (R + 1) i
def lop (s : Nat → Nat → Rs (List Sm)) (R : Nat) (l : Option Str) (i : Nat) : Rs Sm :=
  if tk ws i = "while" then (xpt ws "(" (i + 1)).bind fun _ j => (cnd ws (uny ws 20) j).bind fun c k => (xpt ws ")" k).bind fun _ m => (bdy ws s R m).bind fun b o => .ok (.whl l c b) o
  else (xpt ws "(" (i + 1)).bind fun _ j => (xpt ws ";" j).bind fun _ k => (xpt ws ";" k).bind fun _ m => (xpt ws ")" m).bind fun _ o => (bdy ws s R o).bind fun b q => .ok (.frl l b) q
def nmd (s : Nat → Nat → Rs (List Sm)) (R : Nat) (i : Nat) : Rs Sm :=
  if tk ws (i + 1) = "(" then (xpt ws ")" (i + 2)).bind fun _ j => (xpt ws ";" j).bind fun _ k => .ok (.call (tk ws i)) k
  else if tk ws (i + 1) = "=" then (tru ws (i + 2)).bind fun b j => (xpt ws ";" j).bind fun _ k => .ok (.set (tk ws i) b) k
  else if tk ws (i + 1) = ":" then (if tk ws (i + 2) = "while" ∨ tk ws (i + 2) = "for" then lop ws s R (some (tk ws i)) (i + 2) else .no (i + 2) "expected while or for")
  else .no (i + 1) "expected (, = or :"
def chc (s : Nat → Nat → Rs (List Sm)) (R : Nat) (i : Nat) : Rs Sm :=
  (xpt ws "(" (i + 1)).bind fun _ j => (cnd ws (uny ws 20) j).bind fun c k => (xpt ws ")" k).bind fun _ m => (bdy ws s R m).bind fun f o =>
    if tk ws o = "else" then (bdy ws s R (o + 1)).bind fun g q => .ok (.ite c f g) q else .ok (.ite c f []) o
def atm (s : Nat → Nat → Rs (List Sm)) (R : Nat) (i : Nat) : Rs Sm := (blc ws (item ws s R) (i + 1)).bind fun b j => (xpt ws "finally" j).bind fun _ k => (blc ws (item ws s R) k).bind fun l m => .ok (.tri b l) m
def one (r : Rs Sm) : Rs (List Sm) := r.bind fun s j => .ok [s] j
/-- a statement, R levels left, its own among them -/
def stm : Nat → Nat → Rs (List Sm)
  | 0, i => .no i nested
  | R + 1, i =>
    let s : Nat → Nat → Rs (List Sm) := fun _ => stm R
    if tk ws i = ";" then .ok [] (i + 1)
    else if tk ws i = "{" then (blc ws (item ws s R) i).bind fun b j => .ok [.blk b] j
    else if isN ws i = true then one (nmd ws s R i)
    else if tk ws i = "if" then one (chc ws s R i)
    else if tk ws i = "while" ∨ tk ws i = "for" then one (lop ws s R none i)
    else if tk ws i = "break" ∨ tk ws i = "continue" then one (jmp ws i)
    else if tk ws i = "return" then one (fin ws i)
    else if tk ws i = "try" then one (atm ws s R i)
    else .no i "expected a statement"
/-- a whole text -/
def prg : Rs (List Sm) := cts ws (item ws (stm ws) 41) "" (ws.length + 1) 0 []
end
end K18

/-! A2: flowform.reader: the small methods. -/
namespace K18
open PySem PySem.Spec L2
open PyProof.Rows hiding St
abbrev aR (K : PySem.W.Frag) : Addr := He.ga K "Reader"
abbrev aT (K : PySem.W.Frag) : Addr := He.ga K "TextError"
/-- a row of words of a text of n signs, at its places -/
structure Rw where
  ws : List Str
  ps : List Nat
  n : Nat
  ok : ∀ w ∈ ws, Wok (cd w)
  len : ps.length = ws.length
  sz : ws.length ≤ 1000000
/-- the place of the k-th token, or the text's end -/
def Rw.pl (w : Rw) (k : Nat) : Nat := w.ps.getD k w.n
/-- the reader at r stands before the i-th token -/
def RS (K : PySem.W.Frag) (w : Rw) (r : Addr) (H : Hp) (i : Nat) : Prop := ∃ dx t us, H r = some (.ins (aR K) dx [("row", V.ref t), ("at", V.int (i : Int)), ("end", V.int (w.n : Int))]) ∧ H t = some (.tup us) ∧ Us H us w.ws w.ps
/-- what is wanted of a method that reads -/
def prom {α : Type} (K : PySem.W.Frag) (w : Rw) (r : Addr) (E : XK) (rep : Hp → V → α → Prop) (H : Hp) (R : Rs α) (Q : VK) : Prop := match R with
  | .ok a j => ∀ H' v, Fr [r] H H' → RS K w r H' j → rep H' v a → Q v H'
  | .no k s => ∀ H' d, Fr [r] H H' → H' d = some (.xd (teF (.int (w.pl k : Int)) (.str s))) → E (.ref (aT K)) (some d) H'
section
variable {K : PySem.W.Frag} {w : Rw} {r : Addr} {E : XK} {H H1 : Hp} {Q : VK}
theorem prom.step {α : Type} {rep : Hp → V → α → Prop} {R : Rs α} (h : prom K w r E rep H R Q) (f : Fr [r] H H1) : prom K w r E rep H1 R Q := by
  cases R with
  | ok a j => exact fun H' v fr => h H' v (f.trans fr)
  | no k s => exact fun H' d fr => h H' d (f.trans fr)
theorem prom.bind {α β : Type} {rep : Hp → V → β → Prop} {repA : Hp → V → α → Prop} {A : Rs α} {f : α → Nat → Rs β} {Q' : VK} (h : prom K w r E rep H (A.bind f) Q)
    (k : ∀ a j H' v, Fr [r] H H' → RS K w r H' j → repA H' v a → prom K w r E rep H' (f a j) Q → Q' v H') : prom K w r E repA H A Q' := by
  cases A with
  | ok a j => exact fun H' v fr rs ra => k a j H' v fr rs ra (prom.step (R := f a j) h fr)
  | no i s => exact h
theorem prom.same {α : Type} {rep rep' : Hp → V → α → Prop} {A : Rs α} {Q' : VK} (h : prom K w r E rep H A Q) (k : ∀ a j H' v, Fr [r] H H' → RS K w r H' j → rep' H' v a → (∀ H2 v2, Fr [r] H' H2 → RS K w r H2 j → rep H2 v2 a → Q v2 H2) → Q' v H') : prom K w r E rep' H A Q' := by
  cases A with
  | ok a j => exact fun H' v fr rs ra => k a j H' v fr rs ra fun H2 v2 f2 => h H2 v2 (fr.trans f2)
  | no i s => exact h
theorem RS.fr {i : Nat} {M : List Addr} (h : RS K w r H i) (f : Fr M H H1) (hm : r ∉ M) : RS K w r H1 i := by
  obtain ⟨dx, t, us, h1, h2, h3⟩ := h
  exact ⟨dx, t, us, f.oth _ _ h1 hm, f.tup _ _ h2, h3.fr f⟩
theorem RS.put {i j : Nat} {dx t : Addr} {us : List V} (h1 : H r = some (.ins (aR K) dx [("row", V.ref t), ("at", V.int (i : Int)), ("end", V.int (w.n : Int))])) (h2 : H t = some (.tup us)) (h3 : Us H us w.ws w.ps) :
    RS K w r (upd H r (.ins (aR K) dx [("row", V.ref t), ("at", V.int (j : Int)), ("end", V.int (w.n : Int))])) j ∧ Fr [r] H (upd H r (.ins (aR K) dx [("row", V.ref t), ("at", V.int (j : Int)), ("end", V.int (w.n : Int))])) := by
  have f : Fr [r] H (upd H r (.ins (aR K) dx [("row", V.ref t), ("at", V.int (j : Int)), ("end", V.int (w.n : Int))])) := Fr.putI h1 (List.mem_singleton.mpr rfl)
  exact ⟨⟨dx, t, us, upd_same, f.tup _ _ h2, h3.fr f⟩, f⟩
end
theorem tk_get {ws : List Str} {i : Nat} (h : i < ws.length) : ws[i]? = some (tk ws i) := by
  unfold tk
  rw [List.getD_eq_getElem?_getD, List.getElem?_eq_getElem h]
  rfl
theorem tk_end {ws : List Str} {i : Nat} (h : ¬ i < ws.length) : tk ws i = "" := by
  unfold tk
  rw [List.getD_eq_getElem?_getD, List.getElem?_eq_none (by omega)]
  rfl
theorem int_nat (i : Nat) : ((i : Int) + 1) = ((i + 1 : Nat) : Int) := by omega

abbrev N_R_text : List Str := ["self"]
theorem sc_R_text : FnScope N_R_text ["self"] (defScope s_R_text) := ⟨rfl, rfl, rfl, by decide +kernel, rfl, by decide +kernel, by decide +kernel⟩
def t_R_text (K : PySem.W.Frag) (E : XK) (w : Rw) : TS :=
  (tSeq (tIfS (tTest (tOp rLtI (tFld K (tVar 0) "at") (tCB (rLenQ K) (tCons (tFld K (tVar 0) "row") tNil)))) (tRet (tOp (rIxT K) (tOp (rIxT K) (tFld K (tVar 0) "row") (tFld K (tVar 0) "at")) (tC (.int 1)))) tNext)
  (tRet (tC (.str ""))))
def spText (K : PySem.W.Frag) (w : Rw) : Sp := fun vs H Q _ => ∃ (r : Addr) (i : Nat), vs = [.ref r] ∧ RS K w r H i ∧ Q (.str (tk w.ws i)) H
section
variable {wd : World} {K : PySem.W.Frag} {mg : Str → Option Value} {base : Heap} {w : Rw}
theorem pure_text (T : Txt K mg) (vs : List V) (H : Hp) (Q : VK) (E : XK) (h : spText K w vs H Q E) : t_R_text K E w { nx := fun _ H' => Q .non H', rt := Q } (start N_R_text vs) H := by
  obtain ⟨r, i, rfl, ⟨dx, t, us, h1, h2, h3⟩, q⟩ := h
  have hl := h3.len.1
  refine ⟨_, rfl, r, _, dx, _, _, rfl, h1, T.cR, T.n_at, rfl, ?_⟩
  refine ⟨_, rfl, r, _, dx, _, _, rfl, h1, T.cR, T.n_row, rfl, t, us, rfl, .inr (sqT h2), _, _, rfl, rfl, _, rfl, ?_⟩
  refine iteB (fun c => ?_) fun c => ?_
  · have c' : i < w.ws.length := by
      have := of_decide_eq_true c
      omega
    obtain ⟨a, p, e1, e2, e3⟩ := h3.get (tk_get c')
    refine ⟨_, rfl, r, _, dx, _, _, rfl, h1, T.cR, T.n_row, rfl, _, rfl, r, _, dx, _, _, rfl, h1, T.cR, T.n_at, rfl, t, us, _, _, rfl, rfl, sqT h2, atI_nat e1, a, _, 1, _, rfl, rfl, sqT e3, rfl, q⟩
  · have c' : ¬ i < w.ws.length := by
      have := of_decide_eq_false c
      omega
    rw [tk_end c'] at q
    exact q
theorem ok_text (T : Txt K mg) : MetS R0 wd K mg base 1 (aR K) "text" (spText K w) := by
  refine met_s T.d_R_text T.cR T.m_text sc_R_text (fun _ _ _ _ _ _ us hl => match us, hl with | [_], _ => rfl) (fun vs H Q E h => ?_) (fun cdv A outer s H vs Q E hr h => ⟨t_R_text K E w, ?_, pure_text T vs H Q E h⟩)
  · obtain ⟨r, i, rfl, _⟩ := h
    rfl
  · exact (pss_cons (ps_if (pt_cmpR op_lt (pe_fld (pv 0) rfl) (pe_callB call_len_seq rfl T.f_len (by decide +kernel) (pa_cons (pe_fld (pv 0) rfl) pa_nil)) (nomark _)) (pss_one (ps_ret (pe_ix ix_tup (pe_ix ix_tup (pe_fld (pv 0) rfl) (pe_fld (pv 0) rfl) (fun _ _ => rfl)) pe_int (fun _ _ => rfl)))) pss_nil)
      (pss_one (ps_ret pe_str)))
end
abbrev N_R_is_name : List Str := ["self"]
theorem sc_R_is_name : FnScope N_R_is_name ["self"] (defScope s_R_is_name) := ⟨rfl, rfl, rfl, by decide +kernel, rfl, by decide +kernel, by decide +kernel⟩
def t_R_is_name (K : PySem.W.Frag) (E : XK) (w : Rw) : TS :=
  (tRet (tAndV (tOp rLtI (tFld K (tVar 0) "at") (tCB (rLenQ K) (tCons (tFld K (tVar 0) "row") tNil))) (tAndV (tOp rEq (tOp (rIxT K) (tOp (rIxT K) (tFld K (tVar 0) "row") (tFld K (tVar 0) "at")) (tC (.int 0))) (tC (.str "word"))) (tOp (rIn K true) (tMet (He.ga K "Reader") "text" (spText K w) E (tVar 0) tNil) (tC (.ref (He.ga K "RESERVED")))))))
def spIsN (K : PySem.W.Frag) (w : Rw) : Sp := fun vs H Q _ => ∃ (r : Addr) (i : Nat), vs = [.ref r] ∧ RS K w r H i ∧ Q (.bl (isN w.ws i)) H
section
variable {wd : World} {K : PySem.W.Frag} {mg : Str → Option Value} {base : Heap} {w : Rw}
theorem isNm_eq (x : Str) : isNm x = (decide (kd (cd x) = "word") && !inV (.str x) (v_RESERVED.map V.str)) := rfl
theorem pure_isname (T : Txt K mg) (vs : List V) (H : Hp) (Q : VK) (E : XK) (h : spIsN K w vs H Q E) : t_R_is_name K E w { nx := fun _ H' => Q .non H', rt := Q } (start N_R_is_name vs) H := by
  obtain ⟨r, i, rfl, ⟨dx, t, us, h1, h2, h3⟩, q⟩ := h
  have hl := h3.len.1
  refine ⟨_, rfl, r, _, dx, _, _, rfl, h1, T.cR, T.n_at, rfl, ?_⟩
  refine ⟨_, rfl, r, _, dx, _, _, rfl, h1, T.cR, T.n_row, rfl, t, us, rfl, .inr (sqT h2), _, _, rfl, rfl, _, rfl, ?_⟩
  refine iteB (fun c => ?_) fun c => ?_
  · have c' : i < w.ws.length := by
      have := of_decide_eq_true c
      omega
    obtain ⟨a, p, e1, e2, e3⟩ := h3.get (tk_get c')
    refine ⟨_, rfl, r, _, dx, _, _, rfl, h1, T.cR, T.n_row, rfl, _, rfl, r, _, dx, _, _, rfl, h1, T.cR, T.n_at, rfl, t, us, _, _, rfl, rfl, sqT h2, atI_nat e1, a, _, 0, _, rfl, rfl, sqT e3, rfl, rfl, _, rfl, ?_⟩
    unfold isN at q
    rw [decide_eq_true c', Bool.true_and, isNm_eq] at q
    refine iteB (fun d => ?_) fun d => ?_
    · refine ⟨_, rfl, r, dx, _, rfl, h1, rfl, r, i, rfl, ⟨dx, t, us, h1, h2, h3⟩, _, _, rfl, .inr (T.v_RESERVED _), rfl, by decide +kernel, ?_⟩
      have d' : kd (cd (tk w.ws i)) = "word" := V.str.inj (of_decide_eq_true d)
      rw [decide_eq_true d', Bool.true_and] at q
      exact q
    · have d' : ¬ kd (cd (tk w.ws i)) = "word" := fun z => of_decide_eq_false d (congrArg V.str z)
      rw [decide_eq_false d', Bool.false_and] at q
      exact q
  · have c' : ¬ i < w.ws.length := by
      have := of_decide_eq_false c
      omega
    unfold isN at q
    rw [decide_eq_false c', Bool.false_and] at q
    exact q
theorem ok_isname (T : Txt K mg) : MetS R0 wd K mg base 2 (aR K) "is_name" (spIsN K w) := by
  refine met_s T.d_R_is_name T.cR T.m_is_name sc_R_is_name (fun _ _ _ _ _ _ us hl => match us, hl with | [_], _ => rfl) (fun vs H Q E h => ?_) (fun cdv A outer s H vs Q E hr h => ⟨t_R_is_name K E w, ?_, pure_isname T vs H Q E h⟩)
  · obtain ⟨r, i, rfl, _⟩ := h
    rfl
  · exact (pss_one (ps_ret (pe_and (pe_cmpR op_lt (pe_fld (pv 0) rfl) (pe_callB call_len_seq rfl T.f_len (by decide +kernel) (pa_cons (pe_fld (pv 0) rfl) pa_nil)) (nomark _)) (pe_and (pe_cmpR op_eq (pe_ix ix_tup (pe_ix ix_tup (pe_fld (pv 0) rfl) (pe_fld (pv 0) rfl) (fun _ _ => rfl)) pe_int (fun _ _ => rfl)) pe_str (nomark _)) (pe_one (pe_cmpR op_notIn_seq (pm0 (ok_text T) hr (by omega) passE (pv 0)) (pe_gc rfl ⟨_, T.g_RESERVED, rfl⟩) (by rfl)))))))
end
abbrev N_R_fail : List Str := ["self", "reason"]
theorem sc_R_fail : FnScope N_R_fail ["self", "reason"] (defScope s_R_fail) := ⟨rfl, rfl, rfl, by decide +kernel, rfl, by decide +kernel, by decide +kernel⟩
def t_R_fail (K : PySem.W.Frag) (E : XK) (w : Rw) : TS :=
  (tSeq (tIfS (tTest (tOp rLtI (tFld K (tVar 0) "at") (tCB (rLenQ K) (tCons (tFld K (tVar 0) "row") tNil)))) (tRaiseTE (He.ga K "TextError") E (tCons (tOp (rIxT K) (tOp (rIxT K) (tFld K (tVar 0) "row") (tFld K (tVar 0) "at")) (tC (.int 2))) (tCons (tVar 1) tNil))) tNext)
  (tRaiseTE (He.ga K "TextError") E (tCons (tFld K (tVar 0) "end") (tCons (tVar 1) tNil))))
def spFail (K : PySem.W.Frag) (w : Rw) : Sp := fun vs H _ E => ∃ (r : Addr) (i : Nat) (s : Str), vs = [.ref r, .str s] ∧ RS K w r H i ∧ ∀ H' d, Fr [r] H H' → H' d = some (.xd (teF (.int (w.pl i : Int)) (.str s))) → E (.ref (aT K)) (some d) H'
section
variable {wd : World} {K : PySem.W.Frag} {mg : Str → Option Value} {base : Heap} {w : Rw}
theorem pure_fail (T : Txt K mg) (vs : List V) (H : Hp) (Q : VK) (E : XK) (h : spFail K w vs H Q E) : t_R_fail K E w { nx := fun _ H' => Q .non H', rt := Q } (start N_R_fail vs) H := by
  obtain ⟨r, i, s, rfl, ⟨dx, t, us, h1, h2, h3⟩, q⟩ := h
  have hl := h3.len
  refine ⟨_, rfl, r, _, dx, _, _, rfl, h1, T.cR, T.n_at, rfl, ?_⟩
  refine ⟨_, rfl, r, _, dx, _, _, rfl, h1, T.cR, T.n_row, rfl, t, us, rfl, .inr (sqT h2), _, _, rfl, rfl, _, rfl, ?_⟩
  refine iteB (fun c => ?_) fun c => ?_
  · have c' : i < w.ws.length := by
      have := of_decide_eq_true c
      omega
    obtain ⟨a, p, e1, e2, e3⟩ := h3.get (tk_get c')
    have ep : w.pl i = p := by
      unfold Rw.pl
      rw [List.getD_eq_getElem?_getD, e2]
      rfl
    refine ⟨_, rfl, r, _, dx, _, _, rfl, h1, T.cR, T.n_row, rfl, _, rfl, r, _, dx, _, _, rfl, h1, T.cR, T.n_at, rfl, t, us, _, _, rfl, rfl, sqT h2, atI_nat e1, a, _, 2, _, rfl, rfl, sqT e3, rfl, _, rfl, _, _, rfl, fun d hd => ?_⟩
    refine q _ d (Fr.new hd) ?_
    rw [upd_same, ep]
  · have c' : ¬ i < w.ws.length := by
      have := of_decide_eq_false c
      omega
    have ep : w.pl i = w.n := by
      unfold Rw.pl
      rw [List.getD_eq_getElem?_getD, List.getElem?_eq_none (by have := w.len; omega)]
      rfl
    refine ⟨_, rfl, r, _, dx, _, _, rfl, h1, T.cR, T.n_end, rfl, _, rfl, _, _, rfl, fun d hd => ?_⟩
    refine q _ d (Fr.new hd) ?_
    rw [upd_same, ep]
theorem ok_fail (T : Txt K mg) : MetS R0 wd K mg base 1 (aR K) "fail" (spFail K w) := by
  refine met_s T.d_R_fail T.cR T.m_fail sc_R_fail (fun _ _ _ _ _ _ us hl => match us, hl with | [_, _], _ => rfl) (fun vs H Q E h => ?_) (fun cdv A outer s H vs Q E hr h => ⟨t_R_fail K E w, ?_, pure_fail T vs H Q E h⟩)
  · obtain ⟨r, i, s, rfl, _⟩ := h
    rfl
  · exact (pss_cons (ps_if (pt_cmpR op_lt (pe_fld (pv 0) rfl) (pe_callB call_len_seq rfl T.f_len (by decide +kernel) (pa_cons (pe_fld (pv 0) rfl) pa_nil)) (nomark _)) (pss_one (ps_raiseTE rfl rfl T.te hr.room takesE (pa_cons (pe_ix ix_tup (pe_ix ix_tup (pe_fld (pv 0) rfl) (pe_fld (pv 0) rfl) (fun _ _ => rfl)) pe_int (fun _ _ => rfl)) (pa_cons (pv 1) pa_nil)) rfl)) pss_nil)
      (pss_one (ps_raiseTE rfl rfl T.te hr.room takesE (pa_cons (pe_fld (pv 0) rfl) (pa_cons (pv 1) pa_nil)) rfl)))
end
abbrev N_R_take : List Str := ["self", "text"]
theorem sc_R_take : FnScope N_R_take ["self"] (defScope s_R_take) := ⟨rfl, rfl, rfl, by decide +kernel, rfl, by decide +kernel, by decide +kernel⟩
def t_R_take (K : PySem.W.Frag) (E : XK) (w : Rw) : TS :=
  (tSeq (tAsg (tMet (He.ga K "Reader") "text" (spText K w) E (tVar 0) tNil) (gName 1))
  (tSeq (sFldAug K (tVar 0) (tC (.int 1)) rAdd "at")
  (tRet (tVar 1))))
def spTake (K : PySem.W.Frag) (w : Rw) : Sp := fun vs H Q _ => ∃ (r : Addr) (i : Nat), vs = [.ref r] ∧ RS K w r H i ∧ ∀ H', Fr [r] H H' → RS K w r H' (i + 1) → Q (.str (tk w.ws i)) H'
section
variable {wd : World} {K : PySem.W.Frag} {mg : Str → Option Value} {base : Heap} {w : Rw}
theorem pure_take (T : Txt K mg) (vs : List V) (H : Hp) (Q : VK) (E : XK) (h : spTake K w vs H Q E) : t_R_take K E w { nx := fun _ H' => Q .non H', rt := Q } (start N_R_take vs) H := by
  obtain ⟨r, i, rfl, rs, q⟩ := h
  obtain ⟨dx, t, us, h1, h2, h3⟩ := id rs
  refine ⟨_, rfl, r, dx, _, rfl, h1, rfl, r, i, rfl, rs, ?_⟩
  refine ⟨_, rfl, r, _, dx, _, _, rfl, h1, T.cR, T.n_at, rfl, _, _, rfl, rfl, dx, _, h1, (show 3 < 1000 by decide), ?_⟩
  obtain ⟨a, b⟩ := RS.put (j := i + 1) h1 h2 h3
  rw [← int_nat] at a b
  exact ⟨_, rfl, q _ b a⟩
theorem ok_take (T : Txt K mg) : MetS R0 wd K mg base 2 (aR K) "take" (spTake K w) := by
  refine met_s T.d_R_take T.cR T.m_take sc_R_take (fun _ _ _ _ _ _ us hl => match us, hl with | [_], _ => rfl) (fun vs H Q E h => ?_) (fun cdv A outer s H vs Q E hr h => ⟨t_R_take K E w, ?_, pure_take T vs H Q E h⟩)
  · obtain ⟨r, i, rfl, _⟩ := h
    rfl
  · exact (pss_cons (ps_set (i := 1) sc_R_take.nd rfl (Or.inl rfl) (pm0 (ok_text T) hr (by omega) passE (pv 0)))
      (pss_cons (ps_fldaug (pv 0) pe_int in_add)
      (pss_one (ps_ret (pv 1)))))
end
abbrev N_R_expect : List Str := ["self", "text"]
theorem sc_R_expect : FnScope N_R_expect ["self", "text"] (defScope s_R_expect) := ⟨rfl, rfl, rfl, by decide +kernel, rfl, by decide +kernel, by decide +kernel⟩
def t_R_expect (K : PySem.W.Frag) (E : XK) (w : Rw) : TS :=
  (tSeq (tIfS (tTest (tOp rNe (tMet (He.ga K "Reader") "text" (spText K w) E (tVar 0) tNil) (tVar 1))) (tDrop (tMet (He.ga K "Reader") "fail" (spFail K w) E (tVar 0) (tCons (tOp rAddT (tC (.str "expected ")) (tVar 1)) tNil))) tNext)
  (sFldAug K (tVar 0) (tC (.int 1)) rAdd "at"))
/-- nothing is handed back -/
def rU : Hp → V → Unit → Prop := fun _ v _ => v = .non
def spExp (K : PySem.W.Frag) (w : Rw) : Sp := fun vs H Q E => ∃ (r : Addr) (i : Nat) (s : Str), vs = [.ref r, .str s] ∧ s.length ≤ 1000 ∧ RS K w r H i ∧ prom K w r E rU H (xpt w.ws s i) Q
section
variable {wd : World} {K : PySem.W.Frag} {mg : Str → Option Value} {base : Heap} {w : Rw}
theorem pure_expect (T : Txt K mg) (vs : List V) (H : Hp) (Q : VK) (E : XK) (h : spExp K w vs H Q E) : t_R_expect K E w { nx := fun _ H' => Q .non H', rt := Q } (start N_R_expect vs) H := by
  obtain ⟨r, i, s, rfl, hs, rs, q⟩ := h
  obtain ⟨dx, t, us, h1, h2, h3⟩ := id rs
  refine ⟨_, rfl, r, dx, _, rfl, h1, rfl, r, i, rfl, rs, _, rfl, rfl, _, rfl, ?_⟩
  unfold xpt at q
  by_cases c : tk w.ws i = s
  · rw [if_pos c] at q
    refine iteFb (by rw [c, decide_eq_true rfl]; rfl) ?_
    refine ⟨_, rfl, r, _, dx, _, _, rfl, h1, T.cR, T.n_at, rfl, _, _, rfl, rfl, dx, _, h1, (show 3 < 1000 by decide), ?_⟩
    obtain ⟨a, b⟩ := RS.put (j := i + 1) h1 h2 h3
    rw [← int_nat] at a b
    exact q _ .non b a rfl
  · rw [if_neg c] at q
    refine iteTb (by rw [decide_eq_false (fun z => c (V.str.inj z))]; rfl) ?_
    refine ⟨_, rfl, r, dx, _, rfl, h1, rfl, _, rfl, _, _, rfl, rfl, ?_, r, i, _, rfl, rs, q⟩
    exact mil (by show 9 + s.length ≤ 1000000; omega)
theorem ok_expect (T : Txt K mg) : MetS R0 wd K mg base 2 (aR K) "expect" (spExp K w) := by
  refine met_s T.d_R_expect T.cR T.m_expect sc_R_expect (fun _ _ _ _ _ _ us hl => match us, hl with | [_, _], _ => rfl) (fun vs H Q E h => ?_) (fun cdv A outer s H vs Q E hr h => ⟨t_R_expect K E w, ?_, pure_expect T vs H Q E h⟩)
  · obtain ⟨r, i, s, rfl, _⟩ := h
    rfl
  · exact (pss_cons (ps_if (pt_cmpR op_ne (pm0 (ok_text T) hr (by omega) passE (pv 0)) (pv 1) (nomark _)) (pss_one (ps_expr (pm (ok_fail T) hr (by omega) passE (pv 0) (pa_cons (pe_op op_add_str pe_str (pv 1)) pa_nil)))) pss_nil)
      (pss_one (ps_fldaug (pv 0) pe_int in_add)))
end
abbrev N_R_truth : List Str := ["self"]
theorem sc_R_truth : FnScope N_R_truth ["self"] (defScope s_R_truth) := ⟨rfl, rfl, rfl, by decide +kernel, rfl, by decide +kernel, by decide +kernel⟩
def t_R_truth (K : PySem.W.Frag) (E : XK) (w : Rw) : TS :=
  (tSeq (tIfS (tAnd (tTest (tOp rNe (tMet (He.ga K "Reader") "text" (spText K w) E (tVar 0) tNil) (tC (.str "true")))) (tTest (tOp rNe (tMet (He.ga K "Reader") "text" (spText K w) E (tVar 0) tNil) (tC (.str "false"))))) (tDrop (tMet (He.ga K "Reader") "fail" (spFail K w) E (tVar 0) (tCons (tC (.str "expected true or false")) tNil))) tNext)
  (tRet (tOp rEq (tMet (He.ga K "Reader") "take" (spTake K w) E (tVar 0) tNil) (tC (.str "true")))))
def rB : Hp → V → Bool → Prop := fun _ v b => v = .bl b
def spTru (K : PySem.W.Frag) (w : Rw) : Sp := fun vs H Q E => ∃ (r : Addr) (i : Nat), vs = [.ref r] ∧ RS K w r H i ∧ prom K w r E rB H (tru w.ws i) Q
section
variable {wd : World} {K : PySem.W.Frag} {mg : Str → Option Value} {base : Heap} {w : Rw}
theorem str_eqT {a b : Str} (h : a = b) : decide (V.str a = V.str b) = true := decide_eq_true (congrArg V.str h)
theorem str_eqF {a b : Str} (h : ¬ a = b) : decide (V.str a = V.str b) = false := decide_eq_false fun z => h (V.str.inj z)
theorem str_neT {a b : Str} (h : ¬ a = b) : (!decide (V.str a = V.str b)) = true := by rw [str_eqF h]; rfl
theorem str_neF {a b : Str} (h : a = b) : (!decide (V.str a = V.str b)) = false := by rw [str_eqT h]; rfl
theorem pure_truth (T : Txt K mg) (vs : List V) (H : Hp) (Q : VK) (E : XK) (h : spTru K w vs H Q E) : t_R_truth K E w { nx := fun _ H' => Q .non H', rt := Q } (start N_R_truth vs) H := by
  obtain ⟨r, i, rfl, rs, q⟩ := h
  obtain ⟨dx, t, us, h1, h2, h3⟩ := id rs
  refine ⟨_, rfl, r, dx, _, rfl, h1, rfl, r, i, rfl, rs, rfl, _, rfl, ?_⟩
  unfold tru at q
  by_cases c : tk w.ws i = "true"
  · rw [if_pos c] at q
    refine iteFb (str_neF c) (iteF ?_)
    refine ⟨_, rfl, r, dx, _, rfl, h1, rfl, r, i, rfl, rs, fun H' fr rs' => ⟨rfl, ?_⟩⟩
    rw [c]
    exact q H' _ fr rs' rfl
  · rw [if_neg c] at q
    refine iteTb (str_neT c) ?_
    refine ⟨_, rfl, r, dx, _, rfl, h1, rfl, r, i, rfl, rs, rfl, _, rfl, ?_⟩
    by_cases d : tk w.ws i = "false"
    · rw [if_pos d] at q
      refine iteFb (str_neF d) ?_
      refine ⟨_, rfl, r, dx, _, rfl, h1, rfl, r, i, rfl, rs, fun H' fr rs' => ⟨rfl, ?_⟩⟩
      rw [d]
      exact q H' _ fr rs' (by unfold rB; congr 1)
    · rw [if_neg d] at q
      refine iteTb (str_neT d) ?_
      exact ⟨_, rfl, r, dx, _, rfl, h1, rfl, r, i, _, rfl, rs, q⟩
theorem ok_truth (T : Txt K mg) : MetS R0 wd K mg base 3 (aR K) "truth" (spTru K w) := by
  refine met_s T.d_R_truth T.cR T.m_truth sc_R_truth (fun _ _ _ _ _ _ us hl => match us, hl with | [_], _ => rfl) (fun vs H Q E h => ?_) (fun cdv A outer s H vs Q E hr h => ⟨t_R_truth K E w, ?_, pure_truth T vs H Q E h⟩)
  · obtain ⟨r, i, rfl, _⟩ := h
    rfl
  · exact (pss_cons (ps_if (PW.pt (pw_and (pt_cmpR op_ne (pm0 (ok_text T) hr (by omega) passE (pv 0)) pe_str (nomark _)) (pw_and1 (pt_cmpR op_ne (pm0 (ok_text T) hr (by omega) passE (pv 0)) pe_str (nomark _))))) (pss_one (ps_expr (pm (ok_fail T) hr (by omega) passE (pv 0) (pa_cons pe_str pa_nil)))) pss_nil)
      (pss_one (ps_ret (pe_cmpR op_eq (pm0 (ok_take T) hr (by omega) passE (pv 0)) pe_str (nomark _)))))
end
end K18

/-! M1: what the mirror takes of the words: places of conditions are paid by tokens. -/
namespace K18
open PySem PySem.Spec L2
open PyProof.Rows hiding St
mutual
/-- the parts of a condition -/
def nd : Cn → Nat
  | .call _ => 1
  | .flag _ => 1
  | .neg c => nd c + 1
  | .chn _ cs => nds cs + 1
def nds : List Cn → Nat
  | [] => 0
  | c :: r => nd c + nds r
end
theorem nd_pos : ∀ c : Cn, 1 ≤ nd c
  | .call _ => by simp [nd]
  | .flag _ => by simp [nd]
  | .neg c => by simp [nd]
  | .chn _ cs => by simp [nd]
theorem nds_append : ∀ a b : List Cn, nds (a ++ b) = nds a + nds b
  | [], b => by simp [nds]
  | c :: r, b => by
    rw [List.cons_append, nds, nds, nds_append r b]
    omega
theorem nds_len : ∀ l : List Cn, l.length ≤ nds l
  | [] => by simp [nds]
  | c :: r => by
    have := nds_len r
    have := nd_pos c
    rw [List.length_cons, nds]
    omega
theorem nds_fl (a : Bool) (c : Cn) : nds (fl a c) ≤ nd c := by
  cases c with
  | chn b cs =>
    show nds (if b = a then cs else [.chn b cs]) ≤ nd (.chn b cs)
    by_cases h : b = a
    · rw [if_pos h, nd]
      omega
    · rw [if_neg h, nds, nds]
      omega
  | _ => simp [fl, nds]
theorem nds_flm (a : Bool) : ∀ l : List Cn, nds (l.flatMap (fl a)) ≤ nds l
  | [] => by simp [nds]
  | c :: r => by
    rw [List.flatMap_cons, nds_append, nds]
    have := nds_fl a c
    have := nds_flm a r
    omega
theorem nd_chd (a : Bool) (l : List Cn) (h0 : 0 < l.length) : nd (chd a l) ≤ nds l + (l.length - 1) := by
  unfold chd
  split
  · rw [nds, nds]
    omega
  · rename_i h
    cases l with
    | nil => exact absurd h0 (Nat.lt_irrefl 0)
    | cons c r =>
      cases r with
      | nil => exact absurd rfl (h c)
      | cons d r =>
        have := nds_flm a (c :: d :: r)
        rw [nd, List.length_cons, List.length_cons]
        omega
/-- a word that pays for a place -/
def payW : List Str := ["let", "if", "while", "for", "break", "continue", "return", "try", "{", "!", "&&", "||"]
def wt (x : Str) : Nat := if isNm x = true ∨ x ∈ payW then 1 else 0
def Cw (ws : List Str) (j : Nat) : Nat := ((ws.take j).map wt).sum
theorem wt_e : wt "" = 0 := by decide +kernel
theorem Cw_succ (ws : List Str) (j : Nat) : Cw ws (j + 1) = Cw ws j + wt (tk ws j) := by
  unfold Cw
  by_cases h : j < ws.length
  · rw [List.take_add_one, tk_get h, List.map_append, List.sum_append]
    simp
  · rw [tk_end h, wt_e, List.take_of_length_le (by omega), List.take_of_length_le (by omega)]
    omega
theorem Cw_le (ws : List Str) : ∀ j, Cw ws j ≤ ws.length := fun j => by
  have h : ∀ l : List Str, (l.map wt).sum ≤ l.length := by
    intro l
    induction l with
    | nil => simp
    | cons x r ih =>
      rw [List.map_cons, List.sum_cons, List.length_cons]
      have : wt x ≤ 1 := by unfold wt; split <;> omega
      omega
  have := h (ws.take j)
  have e := List.length_take_le j ws
  unfold Cw
  have e2 : (ws.take j).length ≤ ws.length := by rw [List.length_take]; omega
  omega
theorem wt_nm {ws : List Str} {i : Nat} (h : isN ws i = true) : wt (tk ws i) = 1 := by
  unfold isN at h
  exact if_pos (.inl (Bool.and_eq_true_iff.mp h).2)
theorem wt_pay {x : Str} (h : x ∈ payW) : wt x = 1 := if_pos (.inr h)
theorem wt_bang : wt "!" = 1 := by decide +kernel
theorem wt_amp : wt "&&" = 1 := by decide +kernel
theorem wt_bar : wt "||" = 1 := by decide +kernel
section
variable (ws : List Str)
/-- how a reader of conditions takes: c paid by the words from i on, all of which are there -/
def Pays (u : Nat → Rs Cn) : Prop := ∀ i c j, u i = .ok c j → i < j ∧ j ≤ ws.length ∧ nd c + Cw ws i ≤ Cw ws j
theorem xpt_ok {t : Str} {i j : Nat} {x : Unit} (h : xpt ws t i = .ok x j) : tk ws i = t ∧ j = i + 1 := by
  unfold xpt at h
  split at h
  · cases h
    exact ⟨by assumption, rfl⟩
  · cases h
theorem tk_lt {i : Nat} (h : tk ws i ≠ "") : i < ws.length := by
  by_cases c : i < ws.length
  · exact c
  · exact absurd (tk_end c) h
theorem isN_lt {i : Nat} (h : isN ws i = true) : i < ws.length := of_decide_eq_true (Bool.and_eq_true_iff.mp h).1
theorem bind_ok {α β : Type} {A : Rs α} {f : α → Nat → Rs β} {b : β} {j : Nat} (h : A.bind f = .ok b j) : ∃ a k, A = .ok a k ∧ f a k = .ok b j := by
  cases A with
  | ok a k => exact ⟨a, k, rfl, h⟩
  | no k r => cases h
theorem ne_e {x t : Str} (h : x = t) (ht : decide (t = "") = false := by decide +kernel) : x ≠ "" := fun z => by
  rw [← h, z] at ht
  exact absurd ht (by decide +kernel)
theorem leaf_pays : Pays ws (leaf ws) := by
  intro i c j h
  unfold leaf at h
  split at h
  · rename_i hn
    have w1 := wt_nm hn
    have c1 := Cw_succ ws i
    have l1 := isN_lt ws hn
    split at h
    · rename_i hp
      obtain ⟨a, k, h1, h2⟩ := bind_ok h
      obtain ⟨e1, rfl⟩ := xpt_ok ws h1
      cases h2
      have l2 := tk_lt ws (ne_e e1)
      have c2 : Cw ws (i + 2) = Cw ws (i + 1) + wt (tk ws (i + 1)) := Cw_succ ws (i + 1)
      have c3 : Cw ws (i + 2 + 1) = Cw ws (i + 2) + wt (tk ws (i + 2)) := Cw_succ ws (i + 2)
      refine ⟨by omega, by omega, ?_⟩
      rw [nd]
      omega
    · cases h
      refine ⟨by omega, by omega, ?_⟩
      rw [nd]
      omega
  · cases h
theorem chl_pays {sep : Str} (hs : wt sep = 1) {u : Nat → Rs Cn} (hu : Pays ws u) : ∀ (f i : Nat) (acc l : List Cn) (j : Nat), chl ws u sep f i acc = .ok l j → i < j ∧ j ≤ ws.length ∧ nds l + (l.length - 1) + Cw ws i ≤ Cw ws j + nds acc + acc.length ∧ acc.length < l.length
  | 0, _, _, _, _, h => by cases h
  | f + 1, i, acc, l, j, h => by
    obtain ⟨c, k, h1, h2⟩ := bind_ok h
    obtain ⟨a1, a2, a3⟩ := hu i c k h1
    have e1 : nds (acc ++ [c]) = nds acc + nd c := by rw [nds_append, nds, nds]; omega
    have e2 : (acc ++ [c]).length = acc.length + 1 := by simp
    split at h2
    · rename_i hk
      obtain ⟨b1, b2, b3, b4⟩ := chl_pays hs hu f (k + 1) _ l j h2
      have c1 := Cw_succ ws k
      rw [hk, hs] at c1
      refine ⟨by omega, b2, ?_, by omega⟩
      omega
    · cases h2
      refine ⟨a1, a2, ?_, by omega⟩
      omega
theorem row_pays {u : Nat → Rs Cn} (hu : Pays ws u) {i j : Nat} {l : List Cn} (h : row ws u i = .ok l j) : i < j ∧ j ≤ ws.length ∧ nd (chd true l) + Cw ws i ≤ Cw ws j ∧ 0 < l.length := by
  obtain ⟨a, b, c, d⟩ := chl_pays ws wt_amp hu _ _ _ _ _ h
  have := nd_chd true l (by simpa using d)
  refine ⟨a, b, ?_, by simpa using d⟩
  simp only [nds, List.length_nil] at c
  omega
theorem chl_map {α β : Type} {u : Nat → Rs α} (g : α → β) {sep : Str} : ∀ (f i : Nat) (acc : List α), (chl ws u sep f i acc).bind (fun l j => .ok (l.map g) j) = chl ws (fun i => (u i).bind fun a j => .ok (g a) j) sep f i (acc.map g)
  | 0, _, _ => rfl
  | f + 1, i, acc => by
    unfold chl
    cases u i with
    | no k r => rfl
    | ok a k =>
      show (if tk ws k = sep then chl ws u sep f (k + 1) (acc ++ [a]) else .ok (acc ++ [a]) k).bind _ = (if tk ws k = sep then chl ws _ sep f (k + 1) (acc.map g ++ [g a]) else .ok (acc.map g ++ [g a]) k)
      split
      · rw [chl_map g f (k + 1) (acc ++ [a]), List.map_append]
        rfl
      · show Rs.ok ((acc ++ [a]).map g) k = _
        rw [List.map_append]
        rfl
/-- a conjunction, joined -/
def cnj (u : Nat → Rs Cn) (i : Nat) : Rs Cn := (row ws u i).bind fun l j => .ok (chd true l) j
theorem cnd_eq (u : Nat → Rs Cn) (i : Nat) : cnd ws u i = (chl ws (cnj ws u) "||" (ws.length + 1) i []).bind fun l j => .ok (chd false l) j := by
  unfold cnd
  have h := chl_map ws (u := row ws u) (chd true) (sep := "||") (ws.length + 1) i []
  show _ = (chl ws (fun i => (row ws u i).bind fun a j => .ok (chd true a) j) "||" (ws.length + 1) i ([].map (chd true))).bind _
  rw [← h]
  cases chl ws (row ws u) "||" (ws.length + 1) i [] <;> rfl
theorem cnj_pays {u : Nat → Rs Cn} (hu : Pays ws u) : Pays ws (cnj ws u) := by
  intro i c j h
  obtain ⟨l, k, h1, h2⟩ := bind_ok h
  cases h2
  obtain ⟨a, b, d, _⟩ := row_pays ws hu h1
  exact ⟨a, b, d⟩
theorem cnd_pays {u : Nat → Rs Cn} (hu : Pays ws u) : Pays ws (cnd ws u) := by
  intro i c j h
  rw [cnd_eq] at h
  obtain ⟨l, k, h1, h2⟩ := bind_ok h
  cases h2
  obtain ⟨a, b, d, e⟩ := chl_pays ws wt_bar (cnj_pays ws hu) _ _ _ _ _ h1
  have := nd_chd false l (by simpa using e)
  refine ⟨a, b, ?_⟩
  simp only [nds, List.length_nil] at d
  omega
theorem uny_pays : ∀ r, Pays ws (uny ws r)
  | 0 => by
    intro i c j h
    unfold uny at h
    split at h
    · cases h
    · exact leaf_pays ws i c j h
  | r + 1 => by
    intro i c j h
    unfold uny at h
    have c1 := Cw_succ ws i
    split at h
    · rename_i hb
      obtain ⟨a, k, h1, h2⟩ := bind_ok h
      cases h2
      obtain ⟨b1, b2, b3⟩ := uny_pays r _ _ _ h1
      rw [hb, wt_bang] at c1
      rw [nd]
      exact ⟨by omega, b2, by omega⟩
    · split at h
      · obtain ⟨a, k, h1, h2⟩ := bind_ok h
        obtain ⟨x, m, h3, h4⟩ := bind_ok h2
        obtain ⟨e1, rfl⟩ := xpt_ok ws h3
        cases h4
        obtain ⟨b1, b2, b3⟩ := cnd_pays ws (uny_pays r) _ _ _ h1
        have l2 := tk_lt ws (ne_e e1)
        have c2 := Cw_succ ws k
        exact ⟨by omega, by omega, by omega⟩
      · exact leaf_pays ws i c j h
end
end K18

/-! A3: flowform.reader: chained, the conditions' methods. -/
namespace K18
open PySem PySem.Spec L2
open PyProof.Rows hiding St
theorem TDs.get {H : Hp} : ∀ {vs : List V} {ds : List PyData}, TDs H vs ds → ∀ {i : Nat} {v : V}, vs[i]? = some v → ∃ d, ds[i]? = some d ∧ TD H v d
  | _, _, .nil, i, v, h => by simp at h
  | _, _, .cons h l, 0, v, e => by
    simp only [List.getElem?_cons_zero, Option.some.injEq] at e
    subst e
    exact ⟨_, rfl, h⟩
  | _, _, .cons h l, i + 1, v, e => by
    simp only [List.getElem?_cons_succ] at e ⊢
    exact l.get e
theorem TD.tup_inv {H : Hp} {v : V} {ds : List PyData} (h : TD H v (.tuple ds)) : ∃ a xs, v = .ref a ∧ H a = some (.tup xs) ∧ TDs H xs ds := by
  cases h with
  | tup h1 h2 => exact ⟨_, _, rfl, h1, h2⟩
theorem TD.str_inv {H : Hp} {v : V} {x : Str} (h : TD H v (.str x)) : v = .str x := by
  cases h
  rfl
theorem TDs.cons_inv {H : Hp} {vs : List V} {d : PyData} {ds : List PyData} (h : TDs H vs (d :: ds)) : ∃ v r, vs = v :: r ∧ TD H v d ∧ TDs H r ds := by
  cases h with
  | cons a b => exact ⟨_, _, rfl, a, b⟩
theorem TDs.nil_inv {H : Hp} {vs : List V} (h : TDs H vs []) : vs = [] := by
  cases h
  rfl
theorem TD.mk1 {H : Hp} {a : Addr} {v : V} {d : PyData} (h : H a = some (.tup [v])) (t : TD H v d) : TD H (.ref a) (.tuple [d]) := .tup h (.cons t .nil)
theorem TD.mk2 {H : Hp} {a : Addr} {v u : V} {d e : PyData} (h : H a = some (.tup [v, u])) (t : TD H v d) (t2 : TD H u e) : TD H (.ref a) (.tuple [d, e]) := .tup h (.cons t (.cons t2 .nil))
theorem TD.mk3 {H : Hp} {a : Addr} {v u z : V} {d e f : PyData} (h : H a = some (.tup [v, u, z])) (t : TD H v d) (t2 : TD H u e) (t3 : TD H z f) : TD H (.ref a) (.tuple [d, e, f]) := .tup h (.cons t (.cons t2 (.cons t3 .nil)))
theorem TD.mk4 {H : Hp} {a : Addr} {v u z y : V} {d e f g : PyData} (h : H a = some (.tup [v, u, z, y])) (t : TD H v d) (t2 : TD H u e) (t3 : TD H z f) (t4 : TD H y g) : TD H (.ref a) (.tuple [d, e, f, g]) := .tup h (.cons t (.cons t2 (.cons t3 (.cons t4 .nil))))
theorem at0 {α : Type} {v : α} {r : List α} : atI (v :: r) (0 : Int) = some v := atI_nat (j := 0) rfl
theorem at1 {α : Type} {u v : α} {r : List α} : atI (u :: v :: r) (1 : Int) = some v := atI_nat (j := 1) rfl
theorem at2 {α : Type} {t u v : α} {r : List α} : atI (t :: u :: v :: r) (2 : Int) = some v := atI_nat (j := 2) rfl
theorem at3 {α : Type} {s t u v : α} {r : List α} : atI (s :: t :: u :: v :: r) (3 : Int) = some v := atI_nat (j := 3) rfl
def kW (a : Bool) : Str := if a then "and" else "or"
def Cn.k : Cn → Str
  | .call _ => "call"
  | .flag _ => "flag"
  | .neg _ => "not"
  | .chn a _ => kW a
theorem kW_ne (a : Bool) : ¬ ("call" : Str) = kW a ∧ ¬ ("flag" : Str) = kW a ∧ ¬ ("not" : Str) = kW a := by cases a <;> decide +kernel
theorem kW_inj {a b : Bool} (h : kW a = kW b) : a = b := by
  cases a <;> cases b <;> first | rfl | exact absurd h (by decide +kernel)
theorem cn_open {H : Hp} {v : V} {c : Cn} (h : TD H v c.data) : ∃ b xs, v = .ref b ∧ H b = some (.tup (.str c.k :: xs)) ∧ ∀ a cs, c = .chn a cs → ∃ t ys, xs = [.ref t] ∧ H t = some (.tup ys) ∧ TDs H ys (Cn.datas cs) := by
  have go : ∀ {k : Str} {ds : List PyData}, TD H v (.tuple (.str k :: ds)) → ∃ b xs, v = .ref b ∧ H b = some (.tup (.str k :: xs)) ∧ TDs H xs ds := by
    intro k ds h
    obtain ⟨a, xs, rfl, h1, h2⟩ := h.tup_inv
    obtain ⟨x, r, rfl, h3, h4⟩ := h2.cons_inv
    rw [h3.str_inv] at h1
    exact ⟨a, r, rfl, h1, h4⟩
  cases c with
  | call n =>
    rw [Cn.data] at h
    obtain ⟨b, xs, h1, h2, _⟩ := go h
    exact ⟨b, xs, h1, h2, fun _ _ e => by cases e⟩
  | flag n =>
    rw [Cn.data] at h
    obtain ⟨b, xs, h1, h2, _⟩ := go h
    exact ⟨b, xs, h1, h2, fun _ _ e => by cases e⟩
  | neg n =>
    rw [Cn.data] at h
    obtain ⟨b, xs, h1, h2, _⟩ := go h
    exact ⟨b, xs, h1, h2, fun _ _ e => by cases e⟩
  | chn a cs =>
    rw [Cn.data] at h
    obtain ⟨b, xs, h1, h2, h3⟩ := go h
    obtain ⟨x, r, rfl, h4, h5⟩ := h3.cons_inv
    obtain ⟨t, ys, rfl, h6, h7⟩ := h4.tup_inv
    rw [h5.nil_inv] at h2
    exact ⟨b, _, h1, h2, fun _ _ e => by
      cases e
      exact ⟨t, ys, rfl, h6, h7⟩⟩

abbrev N_chained : List Str := ["kind", "parts", "found", "part"]
theorem sc_chained : FnScope N_chained ["kind", "parts"] (defScope s_chained) := ⟨rfl, rfl, rfl, by decide +kernel, rfl, by decide +kernel, by decide +kernel⟩
def t_chained (K : PySem.W.Frag) (E : XK)  : TS :=
  (tSeq (tIfS (tTest (tOp rEq (tCB (rLenQ K) (tCons (tVar 1) tNil)) (tC (.int 1)))) (tRet (tOp (rIxL K) (tVar 1) (tC (.int 0)))) tNext)
  (tSeq (tAsg (tLst tNil) (gName 2))
  (tSeq (tFor (iList K (tVar 1)) (gName 3) (tIfS (tTest (tOp rEq (tOp (rIxT K) (tVar 3) (tC (.int 0))) (tVar 0))) (tDrop (tBM K "list" (rExtT K) (tVar 2) (tCons (tOp (rIxT K) (tVar 3) (tC (.int 1))) tNil))) (tDrop (tBM K "list" rAppend (tVar 2) (tCons (tVar 3) tNil)))))
  (tRet (tTup (tCons (tVar 0) (tCons (tCB (rTupQ K) (tCons (tVar 2) tNil)) tNil)))))))
def spChd : Sp := fun vs H Q _ => ∃ (a : Bool) (l : Addr) (xs : List V) (cs : List Cn), vs = [.str (kW a), .ref l] ∧ H l = some (.lst xs) ∧ TDs H xs (Cn.datas cs) ∧ 0 < cs.length ∧ nds cs ≤ 1000000 ∧ ∀ H' v, Fr [] H H' → TD H' v (chd a cs).data → Q v H'
theorem nds_take (l : List Cn) (i : Nat) : nds (l.take i) ≤ nds l := by
  have h := nds_append (l.take i) (l.drop i)
  rw [List.take_append_drop] at h
  omega
theorem pure_chained {K : PySem.W.Frag} (vs : List V) (H : Hp) (Q : VK) (E : XK) (h : spChd vs H Q E) : t_chained K E { nx := fun _ H' => Q .non H', rt := Q } (start N_chained vs) H := by
  obtain ⟨a, l, xs, cs, rfl, hl, hd, h0, hn, q⟩ := h
  have hlen : xs.length = cs.length := by rw [hd.length, Cn.datas_map, List.length_map]
  refine ⟨_, rfl, l, xs, rfl, .inl (sqL hl), rfl, _, rfl, ?_⟩
  by_cases c1 : cs.length = 1
  · refine iteTb (decide_eq_true (by rw [hlen, c1]; rfl)) ?_
    obtain ⟨c, rfl⟩ : ∃ c, cs = [c] := by
      cases cs with
      | nil => cases h0
      | cons c r =>
        cases r with
        | nil => exact ⟨c, rfl⟩
        | cons _ _ => simp at c1
    rw [Cn.datas, Cn.datas] at hd
    obtain ⟨v, r, rfl, hv, hr⟩ := hd.cons_inv
    exact ⟨_, rfl, l, _, 0, v, rfl, rfl, sqL hl, at0, q H v Fr.refl hv⟩
  · refine iteFb (decide_eq_false (fun z => c1 ?_)) ?_
    · have z2 : ((xs.length : Nat) : Int) = 1 := V.int.inj z
      omega
    · refine ⟨by decide, fun f hf => ?_⟩
      have hlf : l ≠ f := ne_of_none hl hf
      refine ⟨_, rfl, l, rfl, ⟨xs, sqL (by rw [upd_ne hlf]; exact hl)⟩, for_list (xs := xs) (fun i σ H' => ∃ (us : List V) (pv : Option V), σ = [some (.str (kW a)), some (.ref l), some (.ref f), pv] ∧ Fr [] H H' ∧ H' f = some (.lst us) ∧ TDs H' us (Cn.datas ((cs.take i).flatMap (fl a))))
        ⟨[], none, rfl, Fr.new hf, upd_same, .nil⟩ (fun i σ H' _ ⟨us, pv, _, fr, _⟩ => sqL (fr.oth _ _ hl (by simp))) ?_ ?_⟩
      · rintro i v σ H' hi ⟨us, pv, rfl, fr, hu, hus⟩
        obtain ⟨d, e1, hv⟩ := hd.get hi
        rw [Cn.datas_map, List.getElem?_map] at e1
        obtain ⟨c, ec, rfl⟩ := Option.map_eq_some_iff.mp e1
        have hv' := hv.fr fr
        obtain ⟨b, ys, rfl, hb, hch⟩ := cn_open hv'
        have et : cs.take (i + 1) = cs.take i ++ [c] := by rw [List.take_add_one, ec]; rfl
        have hul : us.length = ((cs.take i).flatMap (fl a)).length := by rw [hus.length, Cn.datas_map, List.length_map]
        have hul2 : us.length ≤ 1000000 := by
          have z1 := nds_len ((cs.take i).flatMap (fl a))
          have z2 := nds_flm a (cs.take i)
          have z3 := nds_take cs i
          omega
        have enx : ∀ vs', Fr [f] H' (upd H' f (.lst vs')) := fun vs' => Fr.put hu (List.mem_singleton.mpr rfl)
        refine ⟨_, rfl, b, _, 0, _, rfl, rfl, sqT hb, at0, _, rfl, rfl, _, rfl, ?_⟩
        by_cases ck : c.k = kW a
        · refine iteTb (str_eqT ck) ?_
          obtain ⟨cs', rfl⟩ : ∃ cs', c = .chn a cs' := by
            have n := kW_ne a
            cases c with
            | call _ => exact absurd ck n.1
            | flag _ => exact absurd ck n.2.1
            | neg _ => exact absurd ck n.2.2
            | chn a' cs' => exact ⟨cs', by rw [kW_inj ck]⟩
          obtain ⟨t, zs, rfl, ht, hz⟩ := hch a cs' rfl
          have e3 : fl a (.chn a cs') = cs' := if_pos rfl
          have zl : zs.length = cs'.length := by rw [hz.length, Cn.datas_map, List.length_map]
          refine ⟨_, rfl, .inl ⟨rfl, _, sqL hu⟩, _, rfl, b, _, 1, _, rfl, rfl, sqT hb, at1, f, t, us, zs, rfl, rfl, hu, sqT ht, mil ?_, us ++ zs, _, rfl, fr.out hf, upd_same, ?_⟩
          · have z1 := nds_len (((cs.take i).flatMap (fl a)) ++ cs')
            have z2 := nds_flm a (cs.take (i + 1))
            rw [et, List.flatMap_append, List.flatMap_cons, List.flatMap_nil, List.append_nil, e3] at z2
            have z3 := nds_take cs (i + 1)
            rw [et] at z3
            rw [List.length_append] at z1
            omega
          · rw [et, List.flatMap_append, List.flatMap_cons, List.flatMap_nil, List.append_nil, e3, Cn.datas_map, List.map_append, ← Cn.datas_map, ← Cn.datas_map]
            exact (hus.fr (enx _)).append (hz.fr (enx _))
        · refine iteFb (str_eqF ck) ?_
          have e3 : fl a c = [c] := by
            cases c with
            | chn a' cs' => exact if_neg fun z => ck (by rw [z]; rfl)
            | _ => rfl
          refine ⟨_, rfl, .inl ⟨rfl, _, sqL hu⟩, _, rfl, f, us, _, rfl, rfl, hu, Nat.lt_of_le_of_lt hul2 (by decide), us ++ [.ref b], _, rfl, fr.out hf, upd_same, ?_⟩
          rw [et, List.flatMap_append, List.flatMap_cons, List.flatMap_nil, List.append_nil, e3, Cn.datas_map, List.map_append, ← Cn.datas_map]
          exact (hus.fr (enx _)).append (.cons (hv'.fr (enx _)) .nil)
      · rintro σ H' ⟨us, pv, rfl, fr, hu, hus⟩
        rw [hlen, List.take_length] at hus
        refine ⟨_, rfl, _, rfl, f, us, rfl, .inl ⟨sqL hu, fun t ht => ⟨two_le, fun p hp => ?_⟩⟩⟩
        have ne : t ≠ p := ne_of_none upd_same hp
        have f1 : Fr [] H' (upd H' t (.tup us)) := Fr.new ht
        have f2 : Fr [] (upd H' t (.tup us)) (upd (upd H' t (.tup us)) p (.tup [.str (kW a), .ref t])) := Fr.new hp
        refine q _ _ ((fr.trans f1).trans f2) ?_
        have e4 : chd a cs = .chn a (cs.flatMap (fl a)) := by
          unfold chd
          split
          · exact absurd rfl c1
          · rfl
        rw [e4, Cn.data]
        exact TD.mk2 upd_same (.str _) (.tup (f2.tup _ _ upd_same) (hus.fr (f1.trans f2)))
section
variable {wd : World} {K : PySem.W.Frag} {mg : Str → Option Value} {base : Heap}
theorem ok_chained (T : Txt K mg) : CalS R0 wd K mg base 1 "chained" spChd := by
  refine cal_s T.d_chained T.g_chained sc_chained (fun _ _ _ _ _ _ us hl => match us, hl with | [_, _], _ => rfl) (fun vs H Q E h => ?_) (fun cdv A outer s H vs Q E hr h => ⟨t_chained K E, ?_, pure_chained vs H Q E h⟩)
  · obtain ⟨a, l, xs, cs, rfl, _⟩ := h
    rfl
  · exact (pss_cons (ps_if (pt_cmpR op_eq (pe_callB call_len_seq rfl T.f_len (by decide +kernel) (pa_cons (pv 1) pa_nil)) pe_int (nomark _)) (pss_one (ps_ret (pe_ix ix_list (pv 1) pe_int (fun _ _ => rfl)))) pss_nil)
      (pss_cons (ps_set (i := 2) sc_chained.nd rfl (Or.inl rfl) (pe_lst pa_nil))
      (pss_cons (ps_for ownE rfl (pi_list (pv 1)) (pg_name (i := 3) sc_chained.nd rfl (Or.inl rfl)) (pss_one (ps_if (pt_cmpR op_eq (pe_ix ix_tup (pv 3) pe_int (fun _ _ => rfl)) (pv 0) (nomark _)) (pss_one (ps_expr (pe_bm PySem.F.plainAttrs_list PySem.F.slot_list_extend PySem.F.type_list_extend mt_extT (pv 2) (pa_cons (pe_ix ix_tup (pv 3) pe_int (fun _ _ => rfl)) pa_nil)))) (pss_one (ps_expr (pe_bm PySem.F.plainAttrs_list PySem.F.slot_list_append PySem.F.type_list_append mt_append (pv 2) (pa_cons (pv 3) pa_nil)))))))
      (pss_one (ps_ret (pe_tup (pa_cons (pv 0) (pa_cons (pe_callTy call_tuple_of rfl T.f_tuple (by decide +kernel) (pa_cons (pv 2) pa_nil)) pa_nil))))))))
end

/-! ### steps of the reader -/
section
variable {K : PySem.W.Frag} {mg : Str → Option Value} {w : Rw} {r : Addr} {H : Hp} {i : Nat} {σ : L2.St} {Q : VK} {E : XK} {D : Ends} {tA tB : TS} {x m : Str} {sp : Sp} {t : TA}
theorem mt (ho : σ[0]? = some (some (.ref r))) (rs : RS K w r H i) (hm : ∀ a b c : V, List.lookup m [(("row" : Str), a), ("at", b), ("end", c)] = none) (h : t σ H fun vs H2 => sp (.ref r :: vs) H2 Q E) : tMet (aR K) m sp E (tVar 0) t σ H Q := by
  obtain ⟨dx, _, _, h1, _⟩ := rs
  exact ⟨_, ho, r, dx, _, rfl, h1, hm _ _ _, h⟩
theorem g_text (ho : σ[0]? = some (some (.ref r))) (rs : RS K w r H i) (q : Q (.str (tk w.ws i)) H) : tMet (aR K) "text" (spText K w) E (tVar 0) tNil σ H Q := mt ho rs (fun _ _ _ => rfl) ⟨r, i, rfl, rs, q⟩
theorem g_isn (ho : σ[0]? = some (some (.ref r))) (rs : RS K w r H i) (q : Q (.bl (isN w.ws i)) H) : tMet (aR K) "is_name" (spIsN K w) E (tVar 0) tNil σ H Q := mt ho rs (fun _ _ _ => rfl) ⟨r, i, rfl, rs, q⟩
theorem g_take (ho : σ[0]? = some (some (.ref r))) (rs : RS K w r H i) (q : ∀ H', Fr [r] H H' → RS K w r H' (i + 1) → Q (.str (tk w.ws i)) H') : tMet (aR K) "take" (spTake K w) E (tVar 0) tNil σ H Q := mt ho rs (fun _ _ _ => rfl) ⟨r, i, rfl, rs, q⟩
theorem g_exp (ho : σ[0]? = some (some (.ref r))) (rs : RS K w r H i) (q : prom K w r E rU H (xpt w.ws x i) Q) (hx : x.length ≤ 1000 := by decide) : tMet (aR K) "expect" (spExp K w) E (tVar 0) (tCons (tC (.str x)) tNil) σ H Q :=
  mt ho rs (fun _ _ _ => rfl) ⟨r, i, x, rfl, hx, rs, q⟩
theorem g_truth (ho : σ[0]? = some (some (.ref r))) (rs : RS K w r H i) (q : prom K w r E rB H (tru w.ws i) Q) : tMet (aR K) "truth" (spTru K w) E (tVar 0) tNil σ H Q := mt ho rs (fun _ _ _ => rfl) ⟨r, i, rfl, rs, q⟩
theorem g_fail (ho : σ[0]? = some (some (.ref r))) (rs : RS K w r H i) {α : Type} {rep : Hp → V → α → Prop} {Q' : VK} (q : prom K w r E rep H (.no i x) Q') : tMet (aR K) "fail" (spFail K w) E (tVar 0) (tCons (tC (.str x)) tNil) σ H Q :=
  mt ho rs (fun _ _ _ => rfl) ⟨r, i, x, rfl, rs, q⟩
theorem g_inc (T : Txt K mg) (ho : σ[0]? = some (some (.ref r))) (rs : RS K w r H i) (q : ∀ H', Fr [r] H H' → RS K w r H' (i + 1) → D.nx σ H') : sFldAug K (tVar 0) (tC (.int 1)) rAdd "at" D σ H := by
  obtain ⟨dx, t, us, h1, h2, h3⟩ := rs
  refine ⟨_, ho, r, _, dx, _, _, rfl, h1, T.cR, T.n_at, rfl, _, _, rfl, rfl, dx, _, h1, (show 3 < 1000 by decide), ?_⟩
  obtain ⟨a, b⟩ := RS.put (j := i + 1) h1 h2 h3
  rw [← int_nat] at a b
  exact q _ b a
theorem i_eq (ho : σ[0]? = some (some (.ref r))) (rs : RS K w r H i) (h1 : tk w.ws i = x → tA D σ H) (h2 : ¬ tk w.ws i = x → tB D σ H) : tIfS (tTest (tOp rEq (tMet (aR K) "text" (spText K w) E (tVar 0) tNil) (tC (.str x)))) tA tB D σ H := by
  refine g_text ho rs ⟨rfl, _, rfl, ?_⟩
  by_cases c : tk w.ws i = x
  · exact iteTb (str_eqT c) (h1 c)
  · exact iteFb (str_eqF c) (h2 c)
theorem i_ne (ho : σ[0]? = some (some (.ref r))) (rs : RS K w r H i) (h1 : ¬ tk w.ws i = x → tA D σ H) (h2 : tk w.ws i = x → tB D σ H) : tIfS (tTest (tOp rNe (tMet (aR K) "text" (spText K w) E (tVar 0) tNil) (tC (.str x)))) tA tB D σ H := by
  refine g_text ho rs ⟨rfl, _, rfl, ?_⟩
  by_cases c : tk w.ws i = x
  · exact iteFb (str_neF c) (h2 c)
  · exact iteTb (str_neT c) (h1 c)
theorem i_isn (ho : σ[0]? = some (some (.ref r))) (rs : RS K w r H i) (h1 : isN w.ws i = true → tA D σ H) (h2 : ¬ isN w.ws i = true → tB D σ H) : tIfS (L2.tB (tMet (aR K) "is_name" (spIsN K w) E (tVar 0) tNil)) tA tB D σ H := by
  refine g_isn ho rs ⟨_, rfl, ?_⟩
  by_cases c : isN w.ws i = true
  · exact iteTb c (h1 c)
  · exact iteFb (Bool.not_eq_true _ ▸ c) (h2 c)
theorem i_nisn (ho : σ[0]? = some (some (.ref r))) (rs : RS K w r H i) (h1 : ¬ isN w.ws i = true → tA D σ H) (h2 : isN w.ws i = true → tB D σ H) : tIfS (tNot (L2.tB (tMet (aR K) "is_name" (spIsN K w) E (tVar 0) tNil))) tA tB D σ H := by
  refine g_isn ho rs ⟨_, rfl, ?_⟩
  by_cases c : isN w.ws i = true
  · rw [c]
    exact iteF (h2 c)
  · rw [Bool.not_eq_true] at c
    rw [c]
    exact iteT (h1 (by rw [c]; exact Bool.false_ne_true))
/-- a local that holds a text, compared -/
theorem v_eq {k : Nat} {y : Str} (ho : σ[k]? = some (some (.str y))) (h1 : y = x → tA D σ H) (h2 : ¬ y = x → tB D σ H) : tIfS (tTest (tOp rEq (tVar k) (tC (.str x)))) tA tB D σ H := by
  refine ⟨_, ho, rfl, _, rfl, ?_⟩
  by_cases c : y = x
  · exact iteTb (str_eqT c) (h1 c)
  · exact iteFb (str_eqF c) (h2 c)
theorem v_eq2 {k : Nat} {y x' : Str} (ho : σ[k]? = some (some (.str y))) (h1 : y = x ∨ y = x' → tA D σ H) (h2 : ¬ (y = x ∨ y = x') → tB D σ H) : tIfS (tOr (tTest (tOp rEq (tVar k) (tC (.str x)))) (tTest (tOp rEq (tVar k) (tC (.str x'))))) tA tB D σ H := by
  refine ⟨_, ho, rfl, _, rfl, ?_⟩
  by_cases c : y = x
  · exact iteTb (str_eqT c) (iteT (h1 (.inl c)))
  · refine iteFb (str_eqF c) ⟨_, ho, rfl, _, rfl, ?_⟩
    by_cases d : y = x'
    · exact iteTb (str_eqT d) (h1 (.inr d))
    · exact iteFb (str_eqF d) (h2 fun z => z.elim c d)
theorem v_ne {k : Nat} {y : Str} (ho : σ[k]? = some (some (.str y))) (h1 : ¬ y = x → tA D σ H) (h2 : y = x → tB D σ H) : tIfS (tTest (tOp rNe (tVar k) (tC (.str x)))) tA tB D σ H := by
  refine ⟨_, ho, rfl, _, rfl, ?_⟩
  by_cases c : y = x
  · exact iteFb (str_neF c) (h2 c)
  · exact iteTb (str_neT c) (h1 c)
end
theorem bassoc {α β γ : Type} {A : Rs α} {f : α → Nat → Rs β} {g : β → Nat → Rs γ} : (A.bind f).bind g = A.bind fun a j => (f a j).bind g := by cases A <;> rfl
def repC (H : Hp) (v : V) (c : Cn) : Prop := TD H v c.data
/-- unary, conjunction, condition at the depth d, read by u -/
def spUn (K : PySem.W.Frag) (w : Rw) (d : Nat) (u : Nat → Rs Cn) : Sp := fun vs H Q E => ∃ (r : Addr) (i : Nat), vs = [.ref r, .int (d : Int)] ∧ RS K w r H i ∧ prom K w r E repC H (u i) Q
/-- operands joined by sep -/
def t_chain (K : PySem.W.Frag) (E : XK) (w : Rw) (m : Str) (sp : Sp) (sep kw : Str) : TS :=
  (tSeq (tAsg (tLst (tCons (tMet (He.ga K "Reader") m sp E (tVar 0) (tCons (tVar 1) tNil)) tNil)) (gName 2))
  (tSeq (tWhile (tTest (tOp rEq (tMet (He.ga K "Reader") "text" (spText K w) E (tVar 0) tNil) (tC (.str sep)))) (tSeq (sFldAug K (tVar 0) (tC (.int 1)) rAdd "at")
  (tDrop (tBM K "list" rAppend (tVar 2) (tCons (tMet (He.ga K "Reader") m sp E (tVar 0) (tCons (tVar 1) tNil)) tNil)))))
  (tRet (tCal spChd E (tCons (tC (.str kw)) (tCons (tVar 2) tNil))))))
theorem pure_chain {K : PySem.W.Frag} {mg : Str → Option Value} (T : Txt K mg) {w : Rw} {m sep : Str} {a : Bool} {d : Nat} {u : Nat → Rs Cn} (hm : ∀ a b c : V, List.lookup m [(("row" : Str), a), ("at", b), ("end", c)] = none) (hu : Pays w.ws u) (hs : wt sep = 1) {H : Hp} {Q : VK} {E : XK} {r : Addr} {i : Nat} (rs : RS K w r H i)
    (q : prom K w r E repC H ((chl w.ws u sep (w.ws.length + 1) i []).bind fun l j => .ok (chd a l) j) Q) :
    t_chain K E w m (spUn K w d u) sep (kW a) { nx := fun _ H' => Q .non H', rt := Q } (start ["self", "depth", "parts"] [.ref r, .int (d : Int)]) H := by
  have sepne : sep ≠ "" := fun z => by rw [z, wt_e] at hs; cases hs
  rw [chl, bassoc] at q
  refine mt rfl rs hm ⟨_, rfl, r, i, rfl, rs, ?_⟩
  have hp := hu i
  generalize u i = A at q hp
  cases A with
  | no k s => exact q
  | ok c j =>
    intro H1 v f1 rs1 hv
    obtain ⟨p1, p2, p3⟩ := hp c j rfl
    refine ⟨one_le, fun l hl => ?_⟩
    have fl1 : Fr [r] H1 (upd H1 l (.lst [v])) := Fr.new hl
    have hH : H l = none := f1.none_of hl (fun z => by
      obtain ⟨dx, _, _, h1, _⟩ := rs1
      rw [List.mem_singleton.mp z, h1] at hl
      cases hl)
    have hlr : l ≠ r := fun z => by
      obtain ⟨dx, _, _, h1, _⟩ := rs1
      rw [z, h1] at hl
      cases hl
    refine ⟨fun m' σ H' => ∃ (f j : Nat) (acc : List Cn) (vs : List V), m' = f ∧ σ = [some (.ref r), some (.int (d : Int)), some (.ref l)] ∧ Fr [r] H H' ∧ H' l = some (.lst vs) ∧ TDs H' vs (Cn.datas acc) ∧ 0 < acc.length ∧ RS K w r H' j ∧ w.ws.length + 1 ≤ f + j ∧ nds acc ≤ Cw w.ws j ∧
      prom K w r E repC H ((if tk w.ws j = sep then chl w.ws u sep f (j + 1) acc else .ok acc j).bind fun l j => .ok (chd a l) j) Q,
      ⟨_, w.ws.length, j, [c], [v], rfl, rfl, f1.out hH, upd_same, .cons (hv.fr fl1) .nil, Nat.one_pos, rs1.fr (Fr.new (M := []) hl) (by simp), by omega, by rw [nds, nds]; omega, q⟩, ?_⟩
    rintro m' σ H' ⟨f, j, acc, vs, rfl, rfl, fr, hl', hd, h0, rs', hf, hn, q'⟩
    have hCn := Cw_le w.ws j
    have hsz := w.sz
    refine g_text rfl rs' ⟨rfl, _, rfl, ?_⟩
    by_cases ct : tk w.ws j = sep
    · rw [if_pos ct] at q'
      refine iteTb (str_eqT ct) ?_
      have jl : j < w.ws.length := tk_lt w.ws (by rw [ct]; exact sepne)
      obtain ⟨f', rfl⟩ : ∃ f', m' = f' + 1 := ⟨m' - 1, by omega⟩
      rw [chl, bassoc] at q'
      refine ⟨fun σ' H'' => ∃ m2, m2 < f' + 1 ∧ ∃ (f j : Nat) (acc : List Cn) (vs : List V), m2 = f ∧ σ' = [some (.ref r), some (.int (d : Int)), some (.ref l)] ∧ Fr [r] H H'' ∧ H'' l = some (.lst vs) ∧ TDs H'' vs (Cn.datas acc) ∧ 0 < acc.length ∧ RS K w r H'' j ∧ w.ws.length + 1 ≤ f + j ∧ nds acc ≤ Cw w.ws j ∧
        prom K w r E repC H ((if tk w.ws j = sep then chl w.ws u sep f (j + 1) acc else .ok acc j).bind fun l j => .ok (chd a l) j) Q, fun _ _ z => z, ?_⟩
      refine g_inc T rfl rs' fun H2 f2 rs2 => ?_
      have hl2 := f2.oth _ _ hl' (by simpa using hlr)
      refine ⟨_, rfl, .inl ⟨rfl, _, sqL hl2⟩, mt rfl rs2 hm ⟨_, rfl, r, j + 1, rfl, rs2, ?_⟩⟩
      have hp := hu (j + 1)
      generalize u (j + 1) = A at q' hp
      cases A with
      | no k s => exact prom.step (R := .no k s) (α := Cn) (rep := repC) (Q := Q) q' (fr.trans f2)
      | ok c2 k =>
        intro H3 v2 f3 rs3 hv2
        obtain ⟨b1, b2, b3⟩ := hp c2 k rfl
        have hl3 := f3.oth _ _ hl2 (by simpa using hlr)
        have e1 : vs.length = acc.length := by rw [hd.length, Cn.datas_map, List.length_map]
        have e2 := nds_len acc
        have e3 := Cw_succ w.ws j
        refine ⟨l, vs, v2, rfl, rfl, hl3, Nat.lt_of_le_of_lt (show vs.length ≤ 1000000 by omega) (by decide), ?_⟩
        have f4 : Fr [l] H3 (upd H3 l (.lst (vs ++ [v2]))) := Fr.put hl3 (List.mem_singleton.mpr rfl)
        have f4' : Fr [r] H (upd H3 l (.lst (vs ++ [v2]))) := ((fr.trans f2).trans f3).out hH
        refine ⟨f', Nat.lt_succ_self _, f', k, acc ++ [c2], vs ++ [v2], rfl, rfl, f4', upd_same, ?_, by simp, rs3.fr f4 (by simpa using Ne.symm hlr), by omega, ?_, ?_⟩
        · rw [Cn.datas_map, List.map_append, ← Cn.datas_map]
          exact (((hd.fr f2).fr f3).fr f4).append (.cons (hv2.fr f4) .nil)
        · rw [nds_append, nds, nds]
          omega
        · exact q'
    · rw [if_neg ct] at q'
      refine iteFb (str_eqF ct) ?_
      refine ⟨_, rfl, a, l, vs, acc, rfl, hl', hd, h0, by omega, fun H2 v2 f2 hv2 => ?_⟩
      exact q' H2 v2 (fr.trans (f2.mono (by simp))) (rs'.fr f2 (by simp)) hv2
end K18

/-! A4: flowform.reader: conditions, declarations, jumps, returns. -/
namespace K18
open PySem PySem.Spec L2
open PyProof.Rows hiding St
def spNo : Sp := fun _ _ _ _ => False
theorem met_no {wd : World} {K : PySem.W.Frag} {mg : Str → Option Value} {base : Heap} {qual : Str} {params : Arguments} {body : List Stmt} {scope : Scope} {ps : List Str} {f C : Addr} {m : Str} (hF : ∃ fd, FunD K m qual params body scope [] [] f fd) (c : Cls K C) (hm : Meth K C m f)
    (hb : ∀ (kV doc pm : Value) (an : Option Addr) (cdv ct : Value) (us : List Value), us.length = ps.length → bindArgs (PySem.W.fnOf m qual params body scope .none kV doc pm an cdv ct) ⟨us, []⟩ = pure (ps.zip us)) (k : Nat) : MetS R0 wd K mg base k C m spNo := by
  obtain ⟨fd, F⟩ := hF
  exact ⟨f, fd, ps, ⟨fun _ _ _ _ h => h.elim, fun _ _ _ _ _ _ _ _ _ _ _ _ _ h => h.elim⟩, c, hm, bnd hb F⟩
abbrev N_R_unary : List Str := ["self", "depth", "mark", "condition", "name"]
theorem sc_R_unary : FnScope N_R_unary ["self", "depth"] (defScope s_R_unary) := ⟨rfl, rfl, rfl, by decide +kernel, rfl, by decide +kernel, by decide +kernel⟩
def t_R_unary (K : PySem.W.Frag) (E : XK) (w : Rw) (spU spC : Sp) : TS :=
  (tSeq (tAsg (tMet (He.ga K "Reader") "text" (spText K w) E (tVar 0) tNil) (gName 2))
  (tSeq (tIfS (tOr (tTest (tOp rEq (tVar 2) (tC (.str "!")))) (tTest (tOp rEq (tVar 2) (tC (.str "("))))) (tSeq (tIfS (tTest (tOp rGtI (tOp rAddI (tVar 1) (tC (.int 1))) (tC (.int 20)))) (tDrop (tMet (He.ga K "Reader") "fail" (spFail K w) E (tVar 0) (tCons (tC (.str "nested too deeply")) tNil))) tNext)
  (tSeq (sFldAug K (tVar 0) (tC (.int 1)) rAdd "at")
  (tSeq (tIfS (tTest (tOp rEq (tVar 2) (tC (.str "!")))) (tRet (tTup (tCons (tC (.str "not")) (tCons (tMet (He.ga K "Reader") "unary" spU E (tVar 0) (tCons (tOp rAddI (tVar 1) (tC (.int 1))) tNil)) tNil)))) tNext)
  (tSeq (tAsg (tMet (He.ga K "Reader") "condition" spC E (tVar 0) (tCons (tOp rAddI (tVar 1) (tC (.int 1))) tNil)) (gName 3))
  (tSeq (tDrop (tMet (He.ga K "Reader") "expect" (spExp K w) E (tVar 0) (tCons (tC (.str ")")) tNil)))
  (tRet (tVar 3))))))) tNext)
  (tSeq (tIfS (tNot (tB (tMet (He.ga K "Reader") "is_name" (spIsN K w) E (tVar 0) tNil))) (tDrop (tMet (He.ga K "Reader") "fail" (spFail K w) E (tVar 0) (tCons (tC (.str "expected a condition")) tNil))) tNext)
  (tSeq (tAsg (tMet (He.ga K "Reader") "take" (spTake K w) E (tVar 0) tNil) (gName 4))
  (tSeq (tIfS (tTest (tOp rNe (tMet (He.ga K "Reader") "text" (spText K w) E (tVar 0) tNil) (tC (.str "(")))) (tRet (tTup (tCons (tC (.str "flag")) (tCons (tVar 4) tNil)))) tNext)
  (tSeq (sFldAug K (tVar 0) (tC (.int 1)) rAdd "at")
  (tSeq (tDrop (tMet (He.ga K "Reader") "expect" (spExp K w) E (tVar 0) (tCons (tC (.str ")")) tNil)))
  (tRet (tTup (tCons (tC (.str "call")) (tCons (tVar 4) tNil)))))))))))
abbrev N_R_conjunction : List Str := ["self", "depth", "parts"]
theorem sc_R_conjunction : FnScope N_R_conjunction ["self", "depth"] (defScope s_R_conjunction) := ⟨rfl, rfl, rfl, by decide +kernel, rfl, by decide +kernel, by decide +kernel⟩
def t_R_conjunction (K : PySem.W.Frag) (E : XK) (w : Rw) (spU : Sp) : TS :=
  (tSeq (tAsg (tLst (tCons (tMet (He.ga K "Reader") "unary" spU E (tVar 0) (tCons (tVar 1) tNil)) tNil)) (gName 2))
  (tSeq (tWhile (tTest (tOp rEq (tMet (He.ga K "Reader") "text" (spText K w) E (tVar 0) tNil) (tC (.str "&&")))) (tSeq (sFldAug K (tVar 0) (tC (.int 1)) rAdd "at")
  (tDrop (tBM K "list" rAppend (tVar 2) (tCons (tMet (He.ga K "Reader") "unary" spU E (tVar 0) (tCons (tVar 1) tNil)) tNil)))))
  (tRet (tCal spChd E (tCons (tC (.str "and")) (tCons (tVar 2) tNil))))))
abbrev N_R_condition : List Str := ["self", "depth", "parts"]
theorem sc_R_condition : FnScope N_R_condition ["self", "depth"] (defScope s_R_condition) := ⟨rfl, rfl, rfl, by decide +kernel, rfl, by decide +kernel, by decide +kernel⟩
def t_R_condition (K : PySem.W.Frag) (E : XK) (w : Rw) (spJ : Sp) : TS :=
  (tSeq (tAsg (tLst (tCons (tMet (He.ga K "Reader") "conjunction" spJ E (tVar 0) (tCons (tVar 1) tNil)) tNil)) (gName 2))
  (tSeq (tWhile (tTest (tOp rEq (tMet (He.ga K "Reader") "text" (spText K w) E (tVar 0) tNil) (tC (.str "||")))) (tSeq (sFldAug K (tVar 0) (tC (.int 1)) rAdd "at")
  (tDrop (tBM K "list" rAppend (tVar 2) (tCons (tMet (He.ga K "Reader") "conjunction" spJ E (tVar 0) (tCons (tVar 1) tNil)) tNil)))))
  (tRet (tCal spChd E (tCons (tC (.str "or")) (tCons (tVar 2) tNil))))))
section
variable {wd : World} {K : PySem.W.Frag} {mg : Str → Option Value} {base : Heap} {w : Rw}
theorem pure_unary (T : Txt K mg) {rr d : Nat} (hd : d + rr = 20) {spU spC : Sp} (hU : ∀ r', rr = r' + 1 → spU = spUn K w (d + 1) (uny w.ws r')) (hC : ∀ r', rr = r' + 1 → spC = spUn K w (d + 1) (cnd w.ws (uny w.ws r')))
    (vs : List V) (H : Hp) (Q : VK) (E : XK) (h : spUn K w d (uny w.ws rr) vs H Q E) : t_R_unary K E w spU spC { nx := fun _ H' => Q .non H', rt := Q } (start N_R_unary vs) H := by
  obtain ⟨r, i, rfl, rs, q⟩ := h
  refine g_text rfl rs ?_
  refine v_eq2 (k := 2) rfl (fun c => ?_) fun c => ?_
  · cases rr with
    | zero =>
      rw [uny, if_pos c] at q
      refine ⟨_, rfl, _, _, rfl, rfl, _, _, rfl, rfl, _, rfl, iteTb (decide_eq_true (by omega)) ?_⟩
      exact g_fail rfl rs q
    | succ rr =>
      rw [hU rr rfl, hC rr rfl]
      refine ⟨_, rfl, _, _, rfl, rfl, _, _, rfl, rfl, _, rfl, iteFb (decide_eq_false (by omega)) ?_⟩
      refine g_inc T rfl rs fun H1 f1 rs1 => ?_
      have q1 := prom.step (R := _) q f1
      refine v_eq (k := 2) rfl (fun b => ?_) fun b => ?_
      · rw [uny, if_pos b] at q1
        refine mt rfl rs1 (fun _ _ _ => rfl) ⟨_, rfl, _, _, rfl, rfl, r, i + 1, rfl, rs1, q1.bind fun c2 j H2 v f2 rs2 hv q2 => ⟨two_le, fun p hp => ?_⟩⟩
        have fn : Fr [] H2 (upd H2 p (.tup [.str "not", v])) := Fr.new hp
        exact q2 _ _ (fn.mono (by simp)) (rs2.fr fn (by simp)) (by rw [repC, Cn.data]; exact TD.mk2 upd_same (.str _) (hv.fr fn))
      · rw [uny, if_neg b, if_pos (c.resolve_left b)] at q1
        refine mt rfl rs1 (fun _ _ _ => rfl) ⟨_, rfl, _, _, rfl, rfl, r, i + 1, rfl, rs1, q1.bind fun c2 j H2 v f2 rs2 hv q2 => ?_⟩
        refine g_exp rfl rs2 (q2.bind fun _ k H3 _ f3 rs3 _ q3 => ?_)
        exact ⟨_, rfl, q3 H3 v Fr.refl rs3 (hv.fr f3)⟩
  · have q' : prom K w r E repC H (leaf w.ws i) Q := by
      cases rr with
      | zero =>
        rw [uny, if_neg c] at q
        exact q
      | succ rr =>
        rw [uny, if_neg (fun z => c (.inl z)), if_neg (fun z => c (.inr z))] at q
        exact q
    unfold leaf at q'
    refine i_nisn rfl rs (fun e => ?_) fun e => ?_
    · rw [if_neg e] at q'
      exact g_fail rfl rs q'
    · rw [if_pos e] at q'
      refine g_take rfl rs fun H1 f1 rs1 => ?_
      have q1 := prom.step (R := _) q' f1
      refine i_ne rfl rs1 (fun e2 => ?_) fun e2 => ?_
      · rw [if_neg e2] at q1
        refine ⟨_, rfl, two_le, fun p hp => ?_⟩
        have fn : Fr [] H1 (upd H1 p (.tup [.str "flag", .str (tk w.ws i)])) := Fr.new hp
        exact q1 _ _ (fn.mono (by simp)) (rs1.fr fn (by simp)) (by rw [repC, Cn.data]; exact TD.mk2 upd_same (.str _) (.str _))
      · rw [if_pos e2] at q1
        refine g_inc T rfl rs1 fun H2 f2 rs2 => ?_
        refine g_exp rfl rs2 ((prom.step (R := _) q1 f2).bind fun _ k H3 _ f3 rs3 _ q3 => ?_)
        refine ⟨_, rfl, two_le, fun p hp => ?_⟩
        have fn : Fr [] H3 (upd H3 p (.tup [.str "call", .str (tk w.ws i)])) := Fr.new hp
        exact q3 _ _ (fn.mono (by simp)) (rs3.fr fn (by simp)) (by rw [repC, Cn.data]; exact TD.mk2 upd_same (.str _) (.str _))
theorem ok_conj (T : Txt K mg) {k d : Nat} {u : Nat → Rs Cn} (hu : Pays w.ws u) (G : MetS R0 wd K mg base k (aR K) "unary" (spUn K w d u)) (hk : 1 ≤ k) : MetS R0 wd K mg base (k + 1) (aR K) "conjunction" (spUn K w d (cnj w.ws u)) := by
  refine met_s T.d_R_conjunction T.cR T.m_conjunction sc_R_conjunction (fun _ _ _ _ _ _ us hl => match us, hl with | [_, _], _ => rfl) (fun vs H Q E h => ?_) (fun cdv A outer s H vs Q E hr h => ⟨t_R_conjunction K E w (spUn K w d u), ?_, ?_⟩)
  · obtain ⟨r, i, rfl, _⟩ := h
    rfl
  · have GU := G
    exact (pss_cons (ps_set (i := 2) sc_R_conjunction.nd rfl (Or.inl rfl) (pe_lst (pa_cons (pm GU hr (by omega) passE (pv 0) (pa_cons (pv 1) pa_nil)) pa_nil)))
      (pss_cons (ps_while ownE (pt_cmpR op_eq (pm0 (ok_text T) hr (by omega) passE (pv 0)) pe_str (nomark _)) (pss_cons (ps_fldaug (pv 0) pe_int in_add)
      (pss_one (ps_expr (pe_bm PySem.F.plainAttrs_list PySem.F.slot_list_append PySem.F.type_list_append mt_append (pv 2) (pa_cons (pm GU hr (by omega) passE (pv 0) (pa_cons (pv 1) pa_nil)) pa_nil))))))
      (pss_one (ps_ret (pc (ok_chained T) hr (by omega) passE rfl (pa_cons pe_str (pa_cons (pv 2) pa_nil)))))))
  · obtain ⟨r, i, rfl, rs, q⟩ := h
    exact pure_chain T (fun _ _ _ => rfl) hu wt_amp (a := true) rs q
theorem ok_cond (T : Txt K mg) {k d : Nat} {u : Nat → Rs Cn} (hu : Pays w.ws u) (G : MetS R0 wd K mg base k (aR K) "unary" (spUn K w d u)) (hk : 1 ≤ k) : MetS R0 wd K mg base (k + 2) (aR K) "condition" (spUn K w d (cnd w.ws u)) := by
  have GJ := ok_conj T hu G hk
  refine met_s T.d_R_condition T.cR T.m_condition sc_R_condition (fun _ _ _ _ _ _ us hl => match us, hl with | [_, _], _ => rfl) (fun vs H Q E h => ?_) (fun cdv A outer s H vs Q E hr h => ⟨t_R_condition K E w (spUn K w d (cnj w.ws u)), ?_, ?_⟩)
  · obtain ⟨r, i, rfl, _⟩ := h
    rfl
  · exact (pss_cons (ps_set (i := 2) sc_R_condition.nd rfl (Or.inl rfl) (pe_lst (pa_cons (pm GJ hr (by omega) passE (pv 0) (pa_cons (pv 1) pa_nil)) pa_nil)))
      (pss_cons (ps_while ownE (pt_cmpR op_eq (pm0 (ok_text T) hr (by omega) passE (pv 0)) pe_str (nomark _)) (pss_cons (ps_fldaug (pv 0) pe_int in_add)
      (pss_one (ps_expr (pe_bm PySem.F.plainAttrs_list PySem.F.slot_list_append PySem.F.type_list_append mt_append (pv 2) (pa_cons (pm GJ hr (by omega) passE (pv 0) (pa_cons (pv 1) pa_nil)) pa_nil))))))
      (pss_one (ps_ret (pc (ok_chained T) hr (by omega) passE rfl (pa_cons pe_str (pa_cons (pv 2) pa_nil)))))))
  · obtain ⟨r, i, rfl, rs, q⟩ := h
    rw [cnd_eq] at q
    exact pure_chain T (fun _ _ _ => rfl) (cnj_pays w.ws hu) wt_bar (a := false) rs q
theorem ok_unary (T : Txt K mg) : ∀ rr d, d + rr = 20 → MetS R0 wd K mg base (3 * rr + 3) (aR K) "unary" (spUn K w d (uny w.ws rr)) := by
  have main : ∀ (rr d k : Nat) (spU spC : Sp), d + rr = 20 → (∀ r', rr = r' + 1 → spU = spUn K w (d + 1) (uny w.ws r')) → (∀ r', rr = r' + 1 → spC = spUn K w (d + 1) (cnd w.ws (uny w.ws r'))) → 2 ≤ k →
      MetS R0 wd K mg base k (aR K) "unary" spU → MetS R0 wd K mg base k (aR K) "condition" spC → MetS R0 wd K mg base (k + 1) (aR K) "unary" (spUn K w d (uny w.ws rr)) := by
    intro rr d k spU spC hd hU hC hk GU GC
    refine met_s T.d_R_unary T.cR T.m_unary sc_R_unary (fun _ _ _ _ _ _ us hl => match us, hl with | [_, _], _ => rfl) (fun vs H Q E h => ?_) (fun cdv A outer s H vs Q E hr h => ⟨t_R_unary K E w spU spC, ?_, pure_unary T hd hU hC vs H Q E h⟩)
    · obtain ⟨r, i, rfl, _⟩ := h
      rfl
    · exact (pss_cons (ps_set (i := 2) sc_R_unary.nd rfl (Or.inl rfl) (pm0 (ok_text T) hr (by omega) passE (pv 0)))
      (pss_cons (ps_if (PW.pt (pw_or (pt_cmpR op_eq (pv 2) pe_str (nomark _)) (pw_or1 (pt_cmpR op_eq (pv 2) pe_str (nomark _))))) (pss_cons (ps_if (pt_cmpR op_gt (pe_op op_add (pv 1) pe_int) (pe_gc rfl T.i_DEEPEST_CONDITION) (nomark _)) (pss_one (ps_expr (pm (ok_fail T) hr (by omega) passE (pv 0) (pa_cons pe_str pa_nil)))) pss_nil)
      (pss_cons (ps_fldaug (pv 0) pe_int in_add)
      (pss_cons (ps_if (pt_cmpR op_eq (pv 2) pe_str (nomark _)) (pss_one (ps_ret (pe_tup (pa_cons pe_str (pa_cons (pm GU hr (by omega) passE (pv 0) (pa_cons (pe_op op_add (pv 1) pe_int) pa_nil)) pa_nil))))) pss_nil)
      (pss_cons (ps_set (i := 3) sc_R_unary.nd rfl (Or.inl rfl) (pm GC hr (by omega) passE (pv 0) (pa_cons (pe_op op_add (pv 1) pe_int) pa_nil)))
      (pss_cons (ps_expr (pm (ok_expect T) hr (by omega) passE (pv 0) (pa_cons pe_str pa_nil)))
      (pss_one (ps_ret (pv 3)))))))) pss_nil)
      (pss_cons (ps_if (pt_not (pt_val (pm0 (ok_isname T) hr (by omega) passE (pv 0)))) (pss_one (ps_expr (pm (ok_fail T) hr (by omega) passE (pv 0) (pa_cons pe_str pa_nil)))) pss_nil)
      (pss_cons (ps_set (i := 4) sc_R_unary.nd rfl (Or.inl rfl) (pm0 (ok_take T) hr (by omega) passE (pv 0)))
      (pss_cons (ps_if (pt_cmpR op_ne (pm0 (ok_text T) hr (by omega) passE (pv 0)) pe_str (nomark _)) (pss_one (ps_ret (pe_tup (pa_cons pe_str (pa_cons (pv 4) pa_nil))))) pss_nil)
      (pss_cons (ps_fldaug (pv 0) pe_int in_add)
      (pss_cons (ps_expr (pm (ok_expect T) hr (by omega) passE (pv 0) (pa_cons pe_str pa_nil)))
      (pss_one (ps_ret (pe_tup (pa_cons pe_str (pa_cons (pv 4) pa_nil))))))))))))
  intro rr
  induction rr with
  | zero =>
    intro d hd
    exact main 0 d 2 spNo spNo hd (fun _ z => by cases z) (fun _ z => by cases z) (Nat.le_refl _) (met_no (ps := ["self", "depth"]) T.d_R_unary T.cR T.m_unary (fun _ _ _ _ _ _ us hl => match us, hl with | [_, _], _ => rfl) _) (met_no (ps := ["self", "depth"]) T.d_R_condition T.cR T.m_condition (fun _ _ _ _ _ _ us hl => match us, hl with | [_, _], _ => rfl) _)
  | succ rr ih =>
    intro d hd
    have GU := ih (d + 1) (by omega)
    have GC := ok_cond T (uny_pays w.ws rr) GU (by omega)
    have up : MetS R0 wd K mg base (3 * rr + 3 + 2) (aR K) "unary" (spUn K w (d + 1) (uny w.ws rr)) := by
      obtain ⟨f, fd, ps, F, a⟩ := GU.ex
      exact ⟨f, fd, ps, ⟨F.len, fun A outer s H args us vs Q E hr => F.run A outer s H args us vs Q E (hr.mono (by omega))⟩, a⟩
    have z := main (rr + 1) d (3 * rr + 3 + 2) _ _ hd (fun r' e => by cases e; rfl) (fun r' e => by cases e; rfl) (by omega) up GC
    have e : 3 * (rr + 1) + 3 = 3 * rr + 3 + 2 + 1 := by omega
    rw [e]
    exact z
/-- a whole condition, at depth 0 -/
theorem ok_cond0 (T : Txt K mg) : MetS R0 wd K mg base 65 (aR K) "condition" (spUn K w 0 (cnd w.ws (uny w.ws 20))) := ok_cond T (uny_pays w.ws 20) (ok_unary T 20 0 rfl) (by omega)
end
end K18

/-! A5: flowform.reader: declarations, jumps, returns. -/
namespace K18
open PySem PySem.Spec L2
open PyProof.Rows hiding St
def repS (H : Hp) (v : V) (s : Sm) : Prop := TD H v s.data
/-- a statement that begins with this word, read by u -/
def spAt (K : PySem.W.Frag) (w : Rw) (pre : Str → Prop) (u : Nat → Rs Sm) : Sp := fun vs H Q E => ∃ (r : Addr) (i : Nat), vs = [.ref r] ∧ RS K w r H i ∧ pre (tk w.ws i) ∧ prom K w r E repS H (u i) Q
abbrev N_R_declaration : List Str := ["self", "name", "value"]
theorem sc_R_declaration : FnScope N_R_declaration ["self"] (defScope s_R_declaration) := ⟨rfl, rfl, rfl, by decide +kernel, rfl, by decide +kernel, by decide +kernel⟩
def t_R_declaration (K : PySem.W.Frag) (E : XK) (w : Rw) : TS :=
  (tSeq (tDrop (tMet (He.ga K "Reader") "expect" (spExp K w) E (tVar 0) (tCons (tC (.str "let")) tNil)))
  (tSeq (tIfS (tNot (tB (tMet (He.ga K "Reader") "is_name" (spIsN K w) E (tVar 0) tNil))) (tDrop (tMet (He.ga K "Reader") "fail" (spFail K w) E (tVar 0) (tCons (tC (.str "expected a name")) tNil))) tNext)
  (tSeq (tAsg (tMet (He.ga K "Reader") "take" (spTake K w) E (tVar 0) tNil) (gName 1))
  (tSeq (tDrop (tMet (He.ga K "Reader") "expect" (spExp K w) E (tVar 0) (tCons (tC (.str "=")) tNil)))
  (tSeq (tAsg (tMet (He.ga K "Reader") "truth" (spTru K w) E (tVar 0) tNil) (gName 2))
  (tSeq (tDrop (tMet (He.ga K "Reader") "expect" (spExp K w) E (tVar 0) (tCons (tC (.str ";")) tNil)))
  (tRet (tTup (tCons (tC (.str "let")) (tCons (tVar 1) (tCons (tVar 2) tNil)))))))))))
section
variable {wd : World} {K : PySem.W.Frag} {mg : Str → Option Value} {base : Heap} {w : Rw}
theorem prom_xpt {K : PySem.W.Frag} {w : Rw} {r : Addr} {H : Hp} {i : Nat} {x : Str} {Q : VK} {E : XK} (hx : tk w.ws i = x) (h : ∀ H', Fr [r] H H' → RS K w r H' (i + 1) → Q .non H') : prom K w r E rU H (xpt w.ws x i) Q := by
  rw [xpt, if_pos hx]
  intro H' v fr rs hv
  rw [show v = .non from hv]
  exact h H' fr rs
theorem pure_dcl (T : Txt K mg) (vs : List V) (H : Hp) (Q : VK) (E : XK) (h : spAt K w (· = "let") (dcl w.ws) vs H Q E) : t_R_declaration K E w { nx := fun _ H' => Q .non H', rt := Q } (start N_R_declaration vs) H := by
  obtain ⟨r, i, rfl, rs, hp, q⟩ := h
  refine g_exp rfl rs (prom_xpt hp fun H1 f1 rs1 => ?_)
  unfold dcl at q
  refine i_nisn rfl rs1 (fun c => ?_) fun c => ?_
  · rw [if_neg c] at q
    exact g_fail rfl rs1 (prom.step (R := _) q f1)
  · rw [if_pos c] at q
    refine g_take rfl rs1 fun H2 f2 rs2 => ?_
    refine g_exp rfl rs2 ((prom.step (R := _) q (f1.trans f2)).bind fun _ j H3 _ f3 rs3 _ q3 => ?_)
    refine g_truth rfl rs3 (q3.bind fun b k H4 v f4 rs4 hv q4 => ?_)
    obtain rfl : v = .bl b := hv
    refine g_exp rfl rs4 (q4.bind fun _ l H5 _ f5 rs5 _ q5 => ?_)
    refine ⟨_, rfl, _, rfl, three_le, fun p hp => ?_⟩
    have fn : Fr [] H5 (upd H5 p (.tup [.str "let", .str (tk w.ws (i + 1)), .bl b])) := Fr.new hp
    exact q5 _ _ (fn.mono (by simp)) (rs5.fr fn (by simp)) (by rw [repS, Sm.data]; exact TD.mk3 upd_same (.str _) (.str _) (.bl _))
theorem ok_dcl (T : Txt K mg) : MetS R0 wd K mg base 4 (aR K) "declaration" (spAt K w (· = "let") (dcl w.ws)) := by
  refine met_s T.d_R_declaration T.cR T.m_declaration sc_R_declaration (fun _ _ _ _ _ _ us hl => match us, hl with | [_], _ => rfl) (fun vs H Q E h => ?_) (fun cdv A outer s H vs Q E hr h => ⟨t_R_declaration K E w, ?_, pure_dcl T vs H Q E h⟩)
  · obtain ⟨r, i, rfl, _⟩ := h
    rfl
  · exact (pss_cons (ps_expr (pm (ok_expect T) hr (by omega) passE (pv 0) (pa_cons pe_str pa_nil)))
      (pss_cons (ps_if (pt_not (pt_val (pm0 (ok_isname T) hr (by omega) passE (pv 0)))) (pss_one (ps_expr (pm (ok_fail T) hr (by omega) passE (pv 0) (pa_cons pe_str pa_nil)))) pss_nil)
      (pss_cons (ps_set (i := 1) sc_R_declaration.nd rfl (Or.inl rfl) (pm0 (ok_take T) hr (by omega) passE (pv 0)))
      (pss_cons (ps_expr (pm (ok_expect T) hr (by omega) passE (pv 0) (pa_cons pe_str pa_nil)))
      (pss_cons (ps_set (i := 2) sc_R_declaration.nd rfl (Or.inl rfl) (pm0 (ok_truth T) hr (by omega) passE (pv 0)))
      (pss_cons (ps_expr (pm (ok_expect T) hr (by omega) passE (pv 0) (pa_cons pe_str pa_nil)))
      (pss_one (ps_ret (pe_tup (pa_cons pe_str (pa_cons (pv 1) (pa_cons (pv 2) pa_nil))))))))))))
end
abbrev N_R_jump : List Str := ["self", "word", "label"]
theorem sc_R_jump : FnScope N_R_jump ["self"] (defScope s_R_jump) := ⟨rfl, rfl, rfl, by decide +kernel, rfl, by decide +kernel, by decide +kernel⟩
def t_R_jump (K : PySem.W.Frag) (E : XK) (w : Rw) : TS :=
  (tSeq (tAsg (tMet (He.ga K "Reader") "take" (spTake K w) E (tVar 0) tNil) (gName 1))
  (tSeq (tAsg (tC .non) (gName 2))
  (tSeq (tIfS (tB (tMet (He.ga K "Reader") "is_name" (spIsN K w) E (tVar 0) tNil)) (tAsg (tMet (He.ga K "Reader") "take" (spTake K w) E (tVar 0) tNil) (gName 2)) (tIfS (tTest (tOp rNe (tMet (He.ga K "Reader") "text" (spText K w) E (tVar 0) tNil) (tC (.str ";")))) (tDrop (tMet (He.ga K "Reader") "fail" (spFail K w) E (tVar 0) (tCons (tC (.str "expected a label or ;")) tNil))) tNext))
  (tSeq (tDrop (tMet (He.ga K "Reader") "expect" (spExp K w) E (tVar 0) (tCons (tC (.str ";")) tNil)))
  (tRet (tTup (tCons (tVar 1) (tCons (tVar 2) tNil))))))))
section
variable {wd : World} {K : PySem.W.Frag} {mg : Str → Option Value} {base : Heap} {w : Rw}
theorem pure_jmp (T : Txt K mg) (vs : List V) (H : Hp) (Q : VK) (E : XK) (h : spAt K w (fun _ => True) (jmp w.ws) vs H Q E) : t_R_jump K E w { nx := fun _ H' => Q .non H', rt := Q } (start N_R_jump vs) H := by
  obtain ⟨r, i, rfl, rs, hp, q⟩ := h
  refine g_take rfl rs fun H1 f1 rs1 => ?_
  have q1 := prom.step (R := _) q f1
  unfold jmp at q1
  refine i_isn rfl rs1 (fun c => ?_) fun c => ?_
  · rw [if_pos c] at q1
    refine g_take rfl rs1 fun H2 f2 rs2 => ?_
    refine g_exp rfl rs2 ((prom.step (R := _) q1 f2).bind fun _ j H3 _ f3 rs3 _ q3 => ?_)
    refine ⟨_, rfl, _, rfl, two_le, fun p hp => ?_⟩
    have fn : Fr [] H3 (upd H3 p (.tup [.str (tk w.ws i), .str (tk w.ws (i + 1))])) := Fr.new hp
    exact q3 _ _ (fn.mono (by simp)) (rs3.fr fn (by simp)) (by rw [repS, Sm.data, optS]; exact TD.mk2 upd_same (.str _) (.str _))
  · rw [if_neg c] at q1
    refine i_ne rfl rs1 (fun e => ?_) fun e => ?_
    · rw [if_neg e] at q1
      exact g_fail rfl rs1 q1
    · rw [if_pos e] at q1
      refine g_exp rfl rs1 (prom_xpt e fun H2 f2 rs2 => ?_)
      refine ⟨_, rfl, _, rfl, two_le, fun p hp => ?_⟩
      have fn : Fr [] H2 (upd H2 p (.tup [.str (tk w.ws i), .non])) := Fr.new hp
      exact q1 _ _ (f2.trans (fn.mono (by simp))) (rs2.fr fn (by simp)) (by rw [repS, Sm.data, optS]; exact TD.mk2 upd_same (.str _) .non)
theorem ok_jmp (T : Txt K mg) : MetS R0 wd K mg base 3 (aR K) "jump" (spAt K w (fun _ => True) (jmp w.ws)) := by
  refine met_s T.d_R_jump T.cR T.m_jump sc_R_jump (fun _ _ _ _ _ _ us hl => match us, hl with | [_], _ => rfl) (fun vs H Q E h => ?_) (fun cdv A outer s H vs Q E hr h => ⟨t_R_jump K E w, ?_, pure_jmp T vs H Q E h⟩)
  · obtain ⟨r, i, rfl, _⟩ := h
    rfl
  · exact (pss_cons (ps_set (i := 1) sc_R_jump.nd rfl (Or.inl rfl) (pm0 (ok_take T) hr (by omega) passE (pv 0)))
      (pss_cons (ps_set (i := 2) sc_R_jump.nd rfl (Or.inl rfl) pe_non)
      (pss_cons (ps_if (pt_val (pm0 (ok_isname T) hr (by omega) passE (pv 0))) (pss_one (ps_set (i := 2) sc_R_jump.nd rfl (Or.inl rfl) (pm0 (ok_take T) hr (by omega) passE (pv 0)))) (pss_one (ps_if (pt_cmpR op_ne (pm0 (ok_text T) hr (by omega) passE (pv 0)) pe_str (nomark _)) (pss_one (ps_expr (pm (ok_fail T) hr (by omega) passE (pv 0) (pa_cons pe_str pa_nil)))) pss_nil)))
      (pss_cons (ps_expr (pm (ok_expect T) hr (by omega) passE (pv 0) (pa_cons pe_str pa_nil)))
      (pss_one (ps_ret (pe_tup (pa_cons (pv 1) (pa_cons (pv 2) pa_nil)))))))))
end
abbrev N_R_ending : List Str := ["self", "number"]
theorem sc_R_ending : FnScope N_R_ending ["self"] (defScope s_R_ending) := ⟨rfl, rfl, rfl, by decide +kernel, rfl, by decide +kernel, by decide +kernel⟩
def t_R_ending (K : PySem.W.Frag) (E : XK) (w : Rw) : TS :=
  (tSeq (tDrop (tMet (He.ga K "Reader") "expect" (spExp K w) E (tVar 0) (tCons (tC (.str "return")) tNil)))
  (tSeq (tAsg (tC .non) (gName 1))
  (tSeq (tIfS (tAnd (tTest (tOp rLtI (tFld K (tVar 0) "at") (tCB (rLenQ K) (tCons (tFld K (tVar 0) "row") tNil)))) (tTest (tOp rEq (tOp (rIxT K) (tOp (rIxT K) (tFld K (tVar 0) "row") (tFld K (tVar 0) "at")) (tC (.int 0))) (tC (.str "number"))))) (tAsg (tCB rIntS (tCons (tMet (He.ga K "Reader") "take" (spTake K w) E (tVar 0) tNil) tNil)) (gName 1)) (tIfS (tTest (tOp rNe (tMet (He.ga K "Reader") "text" (spText K w) E (tVar 0) tNil) (tC (.str ";")))) (tDrop (tMet (He.ga K "Reader") "fail" (spFail K w) E (tVar 0) (tCons (tC (.str "expected a number or ;")) tNil))) tNext))
  (tSeq (tDrop (tMet (He.ga K "Reader") "expect" (spExp K w) E (tVar 0) (tCons (tC (.str ";")) tNil)))
  (tRet (tTup (tCons (tC (.str "return")) (tCons (tVar 1) tNil))))))))
theorem num_text {x : Str} (hw : Wok (cd x)) (hk : kd (cd x) = "number") : PySem.intText? x = some (numV x) ∧ x.length ≤ 640 := by
  have h1 : ∀ c ∈ cd DG, PySem.intText? ⟨#[c]⟩ = some (numV ⟨#[c]⟩) := by decide +kernel
  have h2 : ∀ c ∈ cd DG, ∀ d ∈ cd DG, PySem.intText? ⟨#[c, d]⟩ = some (numV ⟨#[c, d]⟩) := by decide +kernel
  have dj := inS_dj
  have key : ∀ l, l = cd x → PySem.intText? x = some (numV x) ∧ x.length ≤ 640 := by
    intro l hl
    rw [← hl] at hw hk
    have ex : x = ⟨l.toArray⟩ := by rw [hl, str_tl]
    rw [str_len, ← hl, ex]
    cases hw with
    | word c r a =>
      rw [kd, if_pos a] at hk
      exact absurd hk (by decide +kernel)
    | num1 c a => exact ⟨h1 c (inS_mem a), (show 1 ≤ 640 by decide)⟩
    | num2 c d a _ b => exact ⟨h2 c (inS_mem a) d (inS_mem b), (show 2 ≤ 640 by decide)⟩
    | sym c a =>
      rw [kd, if_neg (by rw [(dj.2.2.1 c (inS_mem a)).2.1]; exact Bool.false_ne_true), if_neg (by rw [(dj.2.2.1 c (inS_mem a)).2.2]; exact Bool.false_ne_true)] at hk
      exact absurd hk (by decide +kernel)
    | amp => exact absurd hk (by decide +kernel)
    | bar => exact absurd hk (by decide +kernel)
  exact key _ rfl
section
variable {wd : World} {K : PySem.W.Frag} {mg : Str → Option Value} {base : Heap} {w : Rw}
theorem pure_fin (T : Txt K mg) (vs : List V) (H : Hp) (Q : VK) (E : XK) (h : spAt K w (· = "return") (fin w.ws) vs H Q E) : t_R_ending K E w { nx := fun _ H' => Q .non H', rt := Q } (start N_R_ending vs) H := by
  obtain ⟨r, i, rfl, rs, hp, q⟩ := h
  refine g_exp rfl rs (prom_xpt hp fun H1 f1 rs1 => ?_)
  have q1 := prom.step (R := _) q f1
  unfold fin at q1
  obtain ⟨dx, t, us, h1, h2, h3⟩ := id rs1
  have hl := h3.len.1
  refine ⟨_, rfl, r, _, dx, _, _, rfl, h1, T.cR, T.n_at, rfl, ?_⟩
  refine ⟨_, rfl, r, _, dx, _, _, rfl, h1, T.cR, T.n_row, rfl, t, us, rfl, .inr (sqT h2), _, _, rfl, rfl, _, rfl, ?_⟩
  refine iteB (fun c => ?_) fun c => ?_
  · have c' : i + 1 < w.ws.length := by
      have := of_decide_eq_true c
      omega
    obtain ⟨a, p, e1, e2, e3⟩ := h3.get (tk_get c')
    refine ⟨_, rfl, r, _, dx, _, _, rfl, h1, T.cR, T.n_row, rfl, _, rfl, r, _, dx, _, _, rfl, h1, T.cR, T.n_at, rfl, t, us, _, _, rfl, rfl, sqT h2, atI_nat e1, a, _, 0, _, rfl, rfl, sqT e3, rfl, rfl, _, rfl, ?_⟩
    by_cases d : kd (cd (tk w.ws (i + 1))) = "number"
    · refine iteTb (str_eqT d) ?_
      rw [if_pos ⟨c', d⟩] at q1
      refine g_take rfl rs1 fun H2 f2 rs2 => ?_
      have hw := w.ok _ (List.mem_of_getElem? (tk_get c'))
      obtain ⟨n1, n2⟩ := num_text hw d
      refine ⟨_, _, rfl, n1, n2, ?_⟩
      refine g_exp rfl rs2 ((prom.step (R := _) q1 f2).bind fun _ j H3 _ f3 rs3 _ q3 => ?_)
      refine ⟨_, rfl, two_le, fun p hp => ?_⟩
      have fn : Fr [] H3 (upd H3 p (.tup [.str "return", .int (numV (tk w.ws (i + 1)))])) := Fr.new hp
      exact q3 _ _ (fn.mono (by simp)) (rs3.fr fn (by simp)) (by rw [repS, Sm.data, optI]; exact TD.mk2 upd_same (.str _) (.int _))
    · refine iteFb (str_eqF d) ?_
      rw [if_neg (fun z => d z.2)] at q1
      refine i_ne rfl rs1 (fun e => ?_) fun e => ?_
      · rw [if_neg e] at q1
        exact g_fail rfl rs1 q1
      · rw [if_pos e] at q1
        refine g_exp rfl rs1 (prom_xpt e fun H2 f2 rs2 => ?_)
        refine ⟨_, rfl, two_le, fun p hp => ?_⟩
        have fn : Fr [] H2 (upd H2 p (.tup [.str "return", .non])) := Fr.new hp
        exact q1 _ _ (f2.trans (fn.mono (by simp))) (rs2.fr fn (by simp)) (by rw [repS, Sm.data, optI]; exact TD.mk2 upd_same (.str _) .non)
  · have c' : ¬ i + 1 < w.ws.length := by
      have := of_decide_eq_false c
      omega
    rw [if_neg (fun z => c' z.1)] at q1
    refine i_ne rfl rs1 (fun e => ?_) fun e => ?_
    · rw [if_neg e] at q1
      exact g_fail rfl rs1 q1
    · rw [if_pos e] at q1
      refine g_exp rfl rs1 (prom_xpt e fun H2 f2 rs2 => ?_)
      refine ⟨_, rfl, two_le, fun p hp => ?_⟩
      have fn : Fr [] H2 (upd H2 p (.tup [.str "return", .non])) := Fr.new hp
      exact q1 _ _ (f2.trans (fn.mono (by simp))) (rs2.fr fn (by simp)) (by rw [repS, Sm.data, optI]; exact TD.mk2 upd_same (.str _) .non)
theorem ok_fin (T : Txt K mg) : MetS R0 wd K mg base 3 (aR K) "ending" (spAt K w (· = "return") (fin w.ws)) := by
  refine met_s T.d_R_ending T.cR T.m_ending sc_R_ending (fun _ _ _ _ _ _ us hl => match us, hl with | [_], _ => rfl) (fun vs H Q E h => ?_) (fun cdv A outer s H vs Q E hr h => ⟨t_R_ending K E w, ?_, pure_fin T vs H Q E h⟩)
  · obtain ⟨r, i, rfl, _⟩ := h
    rfl
  · exact (pss_cons (ps_expr (pm (ok_expect T) hr (by omega) passE (pv 0) (pa_cons pe_str pa_nil)))
      (pss_cons (ps_set (i := 1) sc_R_ending.nd rfl (Or.inl rfl) pe_non)
      (pss_cons (ps_if (PW.pt (pw_and (pt_cmpR op_lt (pe_fld (pv 0) rfl) (pe_callB call_len_seq rfl T.f_len (by decide +kernel) (pa_cons (pe_fld (pv 0) rfl) pa_nil)) (nomark _)) (pw_and1 (pt_cmpR op_eq (pe_ix ix_tup (pe_ix ix_tup (pe_fld (pv 0) rfl) (pe_fld (pv 0) rfl) (fun _ _ => rfl)) pe_int (fun _ _ => rfl)) pe_str (nomark _))))) (pss_one (ps_set (i := 1) sc_R_ending.nd rfl (Or.inl rfl) (pe_callTy call_int_str rfl T.f_int (by decide +kernel) (pa_cons (pm0 (ok_take T) hr (by omega) passE (pv 0)) pa_nil)))) (pss_one (ps_if (pt_cmpR op_ne (pm0 (ok_text T) hr (by omega) passE (pv 0)) pe_str (nomark _)) (pss_one (ps_expr (pm (ok_fail T) hr (by omega) passE (pv 0) (pa_cons pe_str pa_nil)))) pss_nil)))
      (pss_cons (ps_expr (pm (ok_expect T) hr (by omega) passE (pv 0) (pa_cons pe_str pa_nil)))
      (pss_one (ps_ret (pe_tup (pa_cons pe_str (pa_cons (pv 1) pa_nil)))))))))
end
end K18

/-! M2: what the mirror takes of the words for statements. -/
namespace K18
open PySem PySem.Spec L2
open PyProof.Rows hiding St
mutual
def plc : Sm → Nat
  | .call _ => 1
  | .dcl _ _ => 1
  | .set _ _ => 1
  | .ite c f s => plcs f + plcs s + nd c + 1
  | .whl _ c b => plcs b + nd c + 1
  | .frl _ b => plcs b + 1
  | .jmp _ _ => 1
  | .ret _ => 1
  | .tri b l => plcs b + plcs l + 1
  | .blk b => plcs b + 1
def plcs : List Sm → Nat
  | [] => 0
  | s :: r => plc s + plcs r
end
theorem plcs_append : ∀ a b : List Sm, plcs (a ++ b) = plcs a + plcs b
  | [], b => by simp [plcs]
  | c :: r, b => by
    rw [List.cons_append, plcs, plcs, plcs_append r b]
    omega
section
variable (ws : List Str)
def PayS (u : Nat → Rs Sm) : Prop := ∀ i c j, u i = .ok c j → i < j ∧ j ≤ ws.length ∧ plc c + Cw ws i ≤ Cw ws j
def PayL (u : Nat → Rs (List Sm)) : Prop := ∀ i c j, u i = .ok c j → i < j ∧ j ≤ ws.length ∧ plcs c + Cw ws i ≤ Cw ws j
def PayI (u : Nat → Rs (List Sm)) : Prop := PayL ws u ∧ ∀ i c j, u i = .ok c j → c.length ≤ 1
theorem Cw_mono {i j : Nat} (h : i ≤ j) : Cw ws i ≤ Cw ws j := by
  induction h with
  | refl => exact Nat.le_refl _
  | step _ ih => rw [Cw_succ]; omega
theorem xpt_ok2 {t : Str} {i j : Nat} {x : Unit} (ht : decide (t = "") = false) (h : xpt ws t i = .ok x j) : j = i + 1 ∧ j ≤ ws.length ∧ Cw ws i ≤ Cw ws j := by
  obtain ⟨e, rfl⟩ := xpt_ok ws h
  exact ⟨rfl, tk_lt ws (ne_e e ht), Cw_mono ws (by omega)⟩
theorem cts_pays {u : Nat → Rs (List Sm)} (hu : PayL ws u) {cl : Str} : ∀ (f i : Nat) (acc l : List Sm) (j : Nat), i ≤ ws.length → cts ws u cl f i acc = .ok l j → i ≤ j ∧ j ≤ ws.length ∧ plcs l + Cw ws i ≤ Cw ws j + plcs acc ∧ tk ws j = cl
  | 0, _, _, _, _, _, h => by cases h
  | f + 1, i, acc, l, j, hi, h => by
    unfold cts at h
    split at h
    · rename_i e
      cases h
      exact ⟨Nat.le_refl _, hi, by omega, e⟩
    · split at h
      · cases h
      · obtain ⟨a, k, h1, h2⟩ := bind_ok h
        obtain ⟨a1, a2, a3⟩ := hu _ _ _ h1
        obtain ⟨b1, b2, b3, b4⟩ := cts_pays hu f k _ l j a2 h2
        rw [plcs_append] at b3
        exact ⟨by omega, b2, by omega, b4⟩
theorem blc_pays {u : Nat → Rs (List Sm)} (hu : PayL ws u) {i j : Nat} {l : List Sm} (h : blc ws u i = .ok l j) : i < j ∧ j ≤ ws.length ∧ plcs l + Cw ws i + 1 ≤ Cw ws j ∧ tk ws i = "{" := by
  unfold blc at h
  obtain ⟨_, a, h1, h2⟩ := bind_ok h
  obtain ⟨l', b, h3, h4⟩ := bind_ok h2
  obtain ⟨_, c, h5, h6⟩ := bind_ok h4
  cases h6
  obtain ⟨e0, _⟩ := xpt_ok ws h1
  obtain ⟨rfl, a2, a3⟩ := xpt_ok2 ws (by decide +kernel) h1
  obtain ⟨b1, b2, b3, _⟩ := cts_pays ws hu _ _ _ _ _ a2 h3
  obtain ⟨rfl, c2, c3⟩ := xpt_ok2 ws (by decide +kernel) h5
  have e := Cw_succ ws i
  rw [e0, show wt "{" = 1 by decide +kernel] at e
  simp only [plcs] at b3
  exact ⟨by omega, c2, by omega, e0⟩
theorem tru_ok {i j : Nat} {b : Bool} (h : tru ws i = .ok b j) : j = i + 1 ∧ j ≤ ws.length := by
  unfold tru at h
  split at h
  · rename_i e
    cases h
    exact ⟨rfl, tk_lt ws (ne_e e)⟩
  · split at h
    · rename_i e
      cases h
      exact ⟨rfl, tk_lt ws (ne_e e)⟩
    · cases h
theorem dcl_pays {i j : Nat} {s : Sm} (h : dcl ws i = .ok s j) : i < j ∧ j ≤ ws.length ∧ plc s + Cw ws i ≤ Cw ws j := by
  unfold dcl at h
  split at h
  · rename_i hn
    obtain ⟨_, a, h1, h2⟩ := bind_ok h
    obtain ⟨b, k, h3, h4⟩ := bind_ok h2
    obtain ⟨_, l, h5, h6⟩ := bind_ok h4
    cases h6
    obtain ⟨rfl, a2, a3⟩ := xpt_ok2 ws (by decide +kernel) h1
    obtain ⟨rfl, b2⟩ := tru_ok ws h3
    obtain ⟨rfl, c2, c3⟩ := xpt_ok2 ws (by decide +kernel) h5
    have e := Cw_succ ws (i + 1)
    rw [wt_nm hn] at e
    have m1 := Cw_mono ws (show i ≤ i + 1 by omega)
    have m2 := Cw_mono ws (show i + 1 + 1 ≤ i + 2 + 1 + 1 + 1 by omega)
    rw [plc]
    exact ⟨by omega, by omega, by omega⟩
  · cases h
theorem jmp_pays {i j : Nat} {s : Sm} (hw : tk ws i = "break" ∨ tk ws i = "continue") (h : jmp ws i = .ok s j) : i < j ∧ j ≤ ws.length ∧ plc s + Cw ws i ≤ Cw ws j := by
  have e := Cw_succ ws i
  have hp : wt (tk ws i) = 1 := by
    rcases hw with z | z <;> rw [z] <;> decide +kernel
  unfold jmp at h
  split at h
  · obtain ⟨_, a, h1, h2⟩ := bind_ok h
    cases h2
    obtain ⟨rfl, a2, a3⟩ := xpt_ok2 ws (by decide +kernel) h1
    have m2 := Cw_mono ws (show i + 1 ≤ i + 2 by omega)
    rw [plc]
    exact ⟨by omega, by omega, by omega⟩
  · split at h
    · rename_i z
      cases h
      have l2 := tk_lt ws (ne_e z)
      have m2 := Cw_mono ws (show i + 1 ≤ i + 2 by omega)
      rw [plc]
      exact ⟨by omega, by omega, by omega⟩
    · cases h
theorem fin_pays {i j : Nat} {s : Sm} (hw : tk ws i = "return") (h : fin ws i = .ok s j) : i < j ∧ j ≤ ws.length ∧ plc s + Cw ws i ≤ Cw ws j := by
  have e := Cw_succ ws i
  have hp : wt (tk ws i) = 1 := by rw [hw]; decide +kernel
  unfold fin at h
  split at h
  · obtain ⟨_, a, h1, h2⟩ := bind_ok h
    cases h2
    obtain ⟨rfl, a2, a3⟩ := xpt_ok2 ws (by decide +kernel) h1
    have m2 := Cw_mono ws (show i + 1 ≤ i + 2 by omega)
    rw [plc]
    exact ⟨by omega, by omega, by omega⟩
  · split at h
    · rename_i z
      cases h
      have l2 := tk_lt ws (ne_e z)
      have m2 := Cw_mono ws (show i + 1 ≤ i + 2 by omega)
      rw [plc]
      exact ⟨by omega, by omega, by omega⟩
    · cases h
theorem item_pays {s : Nat → Nat → Rs (List Sm)} : ∀ {R : Nat}, (∀ R', R = R' + 1 → PayI ws (s R)) → PayI ws (item ws s R)
  | 0, _ => ⟨fun _ _ _ h => (by cases h), fun _ _ _ h => (by cases h)⟩
  | R + 1, hs => by
    have H := hs R rfl
    have h0 : ∀ i c j, item ws s (R + 1) i = .ok c j → (i < j ∧ j ≤ ws.length ∧ plcs c + Cw ws i ≤ Cw ws j) ∧ c.length ≤ 1 := by
      intro i c j h
      rw [item] at h
      split at h
      · obtain ⟨d, k, h1, h2⟩ := bind_ok h
        cases h2
        obtain ⟨a, b, e⟩ := dcl_pays ws h1
        refine ⟨⟨a, b, ?_⟩, Nat.le_refl _⟩
        rw [plcs, plcs]
        omega
      · exact ⟨H.1 _ _ _ h, H.2 _ _ _ h⟩
    exact ⟨fun i c j h => (h0 i c j h).1, fun i c j h => (h0 i c j h).2⟩
theorem bdy_pays {s : Nat → Nat → Rs (List Sm)} {R : Nat} (hs : ∀ R', R = R' + 1 → PayI ws (s R)) : PayL ws (bdy ws s R) := by
  intro i c j h
  unfold bdy at h
  split at h
  · obtain ⟨a, b, d, _⟩ := blc_pays ws (item_pays ws hs).1 h
    exact ⟨a, b, by omega⟩
  · cases R with
    | zero => cases h
    | succ R =>
      simp only at h
      split at h
      · cases h
      · exact (hs R rfl).1 _ _ _ h
theorem lop_pays {s : Nat → Nat → Rs (List Sm)} {R : Nat} {l : Option Str} {i j : Nat} {c : Sm} (hs : ∀ R', R = R' + 1 → PayI ws (s R)) (hw : tk ws i = "while" ∨ tk ws i = "for") (h : lop ws s R l i = .ok c j) : i < j ∧ j ≤ ws.length ∧ plc c + Cw ws i ≤ Cw ws j := by
  have e := Cw_succ ws i
  have hp : wt (tk ws i) = 1 := by
    rcases hw with z | z <;> rw [z] <;> decide +kernel
  unfold lop at h
  split at h
  · obtain ⟨_, a, h1, h2⟩ := bind_ok h
    obtain ⟨d, b, h3, h4⟩ := bind_ok h2
    obtain ⟨_, k, h5, h6⟩ := bind_ok h4
    obtain ⟨q, o, h7, h8⟩ := bind_ok h6
    cases h8
    obtain ⟨a1, a2, a3⟩ := xpt_ok2 ws (by decide +kernel) h1
    obtain ⟨b1, b2, b3⟩ := cnd_pays ws (uny_pays ws 20) _ _ _ h3
    obtain ⟨c1, c2, c3⟩ := xpt_ok2 ws (by decide +kernel) h5
    obtain ⟨d1, d2, d3⟩ := bdy_pays ws hs _ _ _ h7
    rw [plc]
    exact ⟨by omega, by omega, by omega⟩
  · obtain ⟨_, a, h1, h2⟩ := bind_ok h
    obtain ⟨_, b, h3, h4⟩ := bind_ok h2
    obtain ⟨_, k, h5, h6⟩ := bind_ok h4
    obtain ⟨_, o, h7, h8⟩ := bind_ok h6
    obtain ⟨q, p, h9, h0⟩ := bind_ok h8
    cases h0
    obtain ⟨a1, a2, a3⟩ := xpt_ok2 ws (by decide +kernel) h1
    obtain ⟨b1, b2, b3⟩ := xpt_ok2 ws (by decide +kernel) h3
    obtain ⟨c1, c2, c3⟩ := xpt_ok2 ws (by decide +kernel) h5
    obtain ⟨d1, d2, d3⟩ := xpt_ok2 ws (by decide +kernel) h7
    obtain ⟨e1, e2, e3⟩ := bdy_pays ws hs _ _ _ h9
    rw [plc]
    exact ⟨by omega, by omega, by omega⟩
theorem nmd_pays {s : Nat → Nat → Rs (List Sm)} {R : Nat} {i j : Nat} {c : Sm} (hs : ∀ R', R = R' + 1 → PayI ws (s R)) (hn : isN ws i = true) (h : nmd ws s R i = .ok c j) : i < j ∧ j ≤ ws.length ∧ plc c + Cw ws i ≤ Cw ws j := by
  have e := Cw_succ ws i
  rw [wt_nm hn] at e
  unfold nmd at h
  split at h
  · obtain ⟨_, a, h1, h2⟩ := bind_ok h
    obtain ⟨_, b, h3, h4⟩ := bind_ok h2
    cases h4
    obtain ⟨a1, a2, a3⟩ := xpt_ok2 ws (by decide +kernel) h1
    obtain ⟨b1, b2, b3⟩ := xpt_ok2 ws (by decide +kernel) h3
    have m := Cw_mono ws (show i + 1 ≤ j by omega)
    rw [plc]
    exact ⟨by omega, by omega, by omega⟩
  · split at h
    · obtain ⟨_, a, h1, h2⟩ := bind_ok h
      obtain ⟨_, b, h3, h4⟩ := bind_ok h2
      cases h4
      obtain ⟨a1, a2⟩ := tru_ok ws h1
      obtain ⟨b1, b2, b3⟩ := xpt_ok2 ws (by decide +kernel) h3
      have m := Cw_mono ws (show i + 1 ≤ j by omega)
      rw [plc]
      exact ⟨by omega, by omega, by omega⟩
    · split at h
      · split at h
        · rename_i z
          obtain ⟨a1, a2, a3⟩ := lop_pays ws hs z h
          have m := Cw_mono ws (show i ≤ i + 2 by omega)
          exact ⟨by omega, by omega, by omega⟩
        · cases h
      · cases h
theorem chc_pays {s : Nat → Nat → Rs (List Sm)} {R : Nat} {i j : Nat} {c : Sm} (hs : ∀ R', R = R' + 1 → PayI ws (s R)) (hw : tk ws i = "if") (h : chc ws s R i = .ok c j) : i < j ∧ j ≤ ws.length ∧ plc c + Cw ws i ≤ Cw ws j := by
  have e := Cw_succ ws i
  have hp : wt (tk ws i) = 1 := by rw [hw]; decide +kernel
  unfold chc at h
  obtain ⟨_, a, h1, h2⟩ := bind_ok h
  obtain ⟨d, b, h3, h4⟩ := bind_ok h2
  obtain ⟨_, k, h5, h6⟩ := bind_ok h4
  obtain ⟨q, o, h7, h8⟩ := bind_ok h6
  obtain ⟨a1, a2, a3⟩ := xpt_ok2 ws (by decide +kernel) h1
  obtain ⟨b1, b2, b3⟩ := cnd_pays ws (uny_pays ws 20) _ _ _ h3
  obtain ⟨c1, c2, c3⟩ := xpt_ok2 ws (by decide +kernel) h5
  obtain ⟨d1, d2, d3⟩ := bdy_pays ws hs _ _ _ h7
  split at h8
  · obtain ⟨g, p, h9, h0⟩ := bind_ok h8
    cases h0
    obtain ⟨e1, e2, e3⟩ := bdy_pays ws hs _ _ _ h9
    have m := Cw_mono ws (show o ≤ o + 1 by omega)
    rw [plc]
    exact ⟨by omega, by omega, by omega⟩
  · cases h8
    rw [plc]
    simp only [plcs]
    exact ⟨by omega, by omega, by omega⟩
theorem atm_pays {s : Nat → Nat → Rs (List Sm)} {R : Nat} {i j : Nat} {c : Sm} (hs : ∀ R', R = R' + 1 → PayI ws (s R)) (hw : tk ws i = "try") (h : atm ws s R i = .ok c j) : i < j ∧ j ≤ ws.length ∧ plc c + Cw ws i ≤ Cw ws j := by
  have e := Cw_succ ws i
  have hp : wt (tk ws i) = 1 := by rw [hw]; decide +kernel
  unfold atm at h
  obtain ⟨b, a, h1, h2⟩ := bind_ok h
  obtain ⟨_, k, h3, h4⟩ := bind_ok h2
  obtain ⟨l, o, h5, h6⟩ := bind_ok h4
  cases h6
  obtain ⟨a1, a2, a3, _⟩ := blc_pays ws (item_pays ws hs).1 h1
  obtain ⟨b1, b2, b3⟩ := xpt_ok2 ws (by decide +kernel) h3
  obtain ⟨c1, c2, c3, _⟩ := blc_pays ws (item_pays ws hs).1 h5
  rw [plc]
  exact ⟨by omega, by omega, by omega⟩
theorem one_ok {r : Rs Sm} {l : List Sm} {j : Nat} (h : one r = .ok l j) : ∃ s, r = .ok s j ∧ l = [s] := by
  obtain ⟨s, k, h1, h2⟩ := bind_ok h
  cases h2
  exact ⟨s, h1, rfl⟩
theorem stm_pays : ∀ R, PayI ws (stm ws R)
  | 0 => ⟨fun _ _ _ h => (by cases h), fun _ _ _ h => (by cases h)⟩
  | R + 1 => by
    have IH : ∀ R', R = R' + 1 → PayI ws ((fun (_ : Nat) => stm ws R) R) := fun _ _ => stm_pays R
    have h0 : ∀ i c j, stm ws (R + 1) i = .ok c j → (i < j ∧ j ≤ ws.length ∧ plcs c + Cw ws i ≤ Cw ws j) ∧ c.length ≤ 1 := by
      intro i c j h
      have p1 : ∀ {r : Rs Sm}, one r = .ok c j → (∀ s, r = .ok s j → i < j ∧ j ≤ ws.length ∧ plc s + Cw ws i ≤ Cw ws j) → (i < j ∧ j ≤ ws.length ∧ plcs c + Cw ws i ≤ Cw ws j) ∧ c.length ≤ 1 := by
        intro r h k
        obtain ⟨s, h1, rfl⟩ := one_ok h
        obtain ⟨a, b, e⟩ := k s h1
        refine ⟨⟨a, b, ?_⟩, Nat.le_refl _⟩
        rw [plcs, plcs]
        omega
      rw [stm] at h
      split at h
      · rename_i z
        cases h
        have := tk_lt ws (ne_e z)
        have := Cw_mono ws (show i ≤ i + 1 by omega)
        refine ⟨⟨by omega, by omega, ?_⟩, Nat.zero_le _⟩
        rw [plcs]
        omega
      · split at h
        · obtain ⟨b, k, h1, h2⟩ := bind_ok h
          cases h2
          obtain ⟨a1, a2, a3, _⟩ := blc_pays ws (item_pays ws (s := fun _ => stm ws R) IH).1 h1
          refine ⟨⟨a1, a2, ?_⟩, Nat.le_refl _⟩
          rw [plcs, plcs, plc]
          omega
        · split at h
          · rename_i z
            exact p1 h fun s e => nmd_pays ws (s := fun _ => stm ws R) IH z e
          · split at h
            · rename_i z
              exact p1 h fun s e => chc_pays ws (s := fun _ => stm ws R) IH z e
            · split at h
              · rename_i z
                exact p1 h fun s e => lop_pays ws (s := fun _ => stm ws R) IH z e
              · split at h
                · rename_i z
                  exact p1 h fun s e => jmp_pays ws z e
                · split at h
                  · rename_i z
                    exact p1 h fun s e => fin_pays ws z e
                  · split at h
                    · rename_i z
                      exact p1 h fun s e => atm_pays ws (s := fun _ => stm ws R) IH z e
                    · cases h
    exact ⟨fun i c j h => (h0 i c j h).1, fun i c j h => (h0 i c j h).2⟩
/-- a whole text's places are paid -/
theorem prg_pays {l : List Sm} {j : Nat} (h : prg ws = .ok l j) : plcs l ≤ Cw ws j ∧ j ≤ ws.length := by
  obtain ⟨_, a, b, _⟩ := cts_pays ws (item_pays ws (R := 41) fun _ _ => stm_pays ws 41).1 _ _ _ _ _ (Nat.zero_le _) h
  simp only [plcs] at b
  exact ⟨by omega, a⟩
end
end K18

/-! A6: flowform.reader: statements. -/
namespace K18
open PySem PySem.Spec L2
open PyProof.Rows hiding St
def repL (H : Hp) (v : V) (l : List Sm) : Prop := TD H v (.tuple (Sm.datas l))
def spRd {α : Type} (K : PySem.W.Frag) (w : Rw) (pre : Str → Prop) (rep : Hp → V → α → Prop) (d : Nat) (u : Nat → Rs α) : Sp := fun vs H Q E => ∃ (r : Addr) (i : Nat), vs = [.ref r, .int (d : Int)] ∧ RS K w r H i ∧ pre (tk w.ws i) ∧ prom K w r E rep H (u i) Q
def yes : Str → Prop := fun _ => True
theorem prom.bindE {K : PySem.W.Frag} {w : Rw} {r : Addr} {E : XK} {H : Hp} {Q : VK} {α β : Type} {rep : Hp → V → β → Prop} {repA : Hp → V → α → Prop} {A : Rs α} {f : α → Nat → Rs β} {Q' : VK} (h : prom K w r E rep H (A.bind f) Q)
    (k : ∀ a j H' v, A = .ok a j → Fr [r] H H' → RS K w r H' j → repA H' v a → prom K w r E rep H' (f a j) Q → Q' v H') : prom K w r E repA H A Q' := by
  cases A with
  | ok a j => exact fun H' v fr rs ra => k a j H' v rfl fr rs ra (prom.step (R := f a j) h fr)
  | no i s => exact h
theorem RS.ne {K : PySem.W.Frag} {w : Rw} {r l : Addr} {H : Hp} {i : Nat} (h : RS K w r H i) (hl : H l = none) : l ≠ r := fun z => by
  obtain ⟨dx, _, _, h1, _⟩ := h
  rw [z, h1] at hl
  cases hl
abbrev N_R_contents : List Str := ["self", "depth", "closing", "found"]
theorem sc_R_contents : FnScope N_R_contents ["self", "depth", "closing"] (defScope s_R_contents) := ⟨rfl, rfl, rfl, by decide +kernel, rfl, by decide +kernel, by decide +kernel⟩
def t_R_contents (K : PySem.W.Frag) (E : XK) (w : Rw) (spS : Sp) : TS :=
  (tSeq (tAsg (tLst tNil) (gName 3))
  (tSeq (tWhile (tTest (tOp rNe (tMet (He.ga K "Reader") "text" (spText K w) E (tVar 0) tNil) (tVar 2))) (tSeq (tIfS (tTest (tOp rEq (tMet (He.ga K "Reader") "text" (spText K w) E (tVar 0) tNil) (tC (.str "")))) (tDrop (tMet (He.ga K "Reader") "fail" (spFail K w) E (tVar 0) (tCons (tC (.str "expected }")) tNil))) tNext)
  (tSeq (tIfS (tTest (tOp rGtI (tVar 1) (tC (.int 40)))) (tDrop (tMet (He.ga K "Reader") "fail" (spFail K w) E (tVar 0) (tCons (tC (.str "nested too deeply")) tNil))) tNext)
  (tIfS (tTest (tOp rEq (tMet (He.ga K "Reader") "text" (spText K w) E (tVar 0) tNil) (tC (.str "let")))) (tDrop (tBM K "list" rAppend (tVar 3) (tCons (tMet (He.ga K "Reader") "declaration" (spAt K w (· = "let") (dcl w.ws)) E (tVar 0) tNil) tNil))) (tDrop (tBM K "list" (rExtT K) (tVar 3) (tCons (tMet (He.ga K "Reader") "statement" spS E (tVar 0) (tCons (tVar 1) tNil)) tNil)))))))
  (tRet (tCB (rTupQ K) (tCons (tVar 3) tNil)))))
def spCts (K : PySem.W.Frag) (w : Rw) (d : Nat) (u : Nat → Rs (List Sm)) : Sp := fun vs H Q E => ∃ (r : Addr) (i : Nat) (cl : Str), vs = [.ref r, .int (d : Int), .str cl] ∧ RS K w r H i ∧ i ≤ w.ws.length ∧ prom K w r E repL H (cts w.ws u cl (w.ws.length + 1) i []) Q
section
variable {wd : World} {K : PySem.W.Frag} {mg : Str → Option Value} {base : Heap} {w : Rw}
theorem pure_cts (T : Txt K mg) {d R : Nat} (hd : d + R = 41) {s : Nat → Nat → Rs (List Sm)} (hs : ∀ R', R = R' + 1 → PayI w.ws (s R)) {spS : Sp} (hS : ∀ R', R = R' + 1 → spS = spRd K w yes repL d (s R))
    (vs : List V) (H : Hp) (Q : VK) (E : XK) (h : spCts K w d (item w.ws s R) vs H Q E) : t_R_contents K E w spS { nx := fun _ H' => Q .non H', rt := Q } (start N_R_contents vs) H := by
  obtain ⟨r, i, cl, rfl, rs, hi, q⟩ := h
  refine ⟨by decide, fun l hl => ?_⟩
  have hlr := rs.ne hl
  refine ⟨fun m σ H' => ∃ (j : Nat) (acc : List Sm) (vs : List V), σ = [some (.ref r), some (.int (d : Int)), some (.str cl), some (.ref l)] ∧ Fr [r] H H' ∧ H' l = some (.lst vs) ∧ TDs H' vs (Sm.datas acc) ∧ RS K w r H' j ∧ j ≤ w.ws.length ∧ w.ws.length + 1 ≤ m + j ∧ acc.length ≤ j ∧
      prom K w r E repL H (cts w.ws (item w.ws s R) cl m j acc) Q,
      ⟨_, i, [], [], rfl, Fr.new hl, upd_same, .nil, rs.fr (Fr.new (M := []) hl) (by simp), hi, Nat.le_add_right _ _, Nat.zero_le _, q⟩, ?_⟩
  rintro m σ H' ⟨j, acc, vs, rfl, fr, hl', ha, rs', hj, hm, hc, q'⟩
  obtain ⟨m, rfl⟩ : ∃ m', m = m' + 1 := ⟨m - 1, by omega⟩
  have sz := w.sz
  rw [cts] at q'
  refine g_text rfl rs' ⟨_, rfl, rfl, _, rfl, ?_⟩
  by_cases c1 : tk w.ws j = cl
  · rw [if_pos c1] at q'
    refine iteFb (str_neF c1) ?_
    refine ⟨_, rfl, l, vs, rfl, .inl ⟨sqL hl', fun t ht => ?_⟩⟩
    have fn : Fr [] H' (upd H' t (.tup vs)) := Fr.new ht
    exact q' _ _ (fr.trans (fn.mono (by simp))) (rs'.fr fn (by simp)) (.tup upd_same (ha.fr fn))
  · rw [if_neg c1] at q'
    refine iteTb (str_neT c1) ?_
    refine ⟨fun σ' H'' => ∃ m2, m2 < m + 1 ∧ ∃ (j : Nat) (acc : List Sm) (vs : List V), σ' = [some (.ref r), some (.int (d : Int)), some (.str cl), some (.ref l)] ∧ Fr [r] H H'' ∧ H'' l = some (.lst vs) ∧ TDs H'' vs (Sm.datas acc) ∧ RS K w r H'' j ∧ j ≤ w.ws.length ∧ w.ws.length + 1 ≤ m2 + j ∧ acc.length ≤ j ∧
      prom K w r E repL H (cts w.ws (item w.ws s R) cl m2 j acc) Q, fun _ _ z => z, ?_⟩
    refine i_eq rfl rs' (fun c2 => ?_) fun c2 => ?_
    · rw [if_pos c2] at q'
      exact g_fail rfl rs' (prom.step (R := _) q' fr)
    · rw [if_neg c2] at q'
      have jl : j < w.ws.length := tk_lt w.ws c2
      refine ⟨_, rfl, _, _, rfl, rfl, _, rfl, ?_⟩
      cases R with
      | zero =>
        refine iteTb (decide_eq_true (by omega)) ?_
        exact g_fail rfl rs' (prom.step (R := _) q' fr)
      | succ R =>
        refine iteFb (decide_eq_false (by omega)) ?_
        have hpay := item_pays w.ws hs
        have hlen : vs.length = acc.length := by rw [ha.length, Sm.datas_map, List.length_map]
        have nxt : ∀ (l2 : List Sm) (k : Nat) (H2 H3 : Hp) (zs : List V), item w.ws s (R + 1) j = .ok l2 k → Fr [r] H H2 → H2 l = some (.lst vs) → TDs H2 vs (Sm.datas acc) → RS K w r H2 k → TDs H2 zs (Sm.datas l2) → H3 = upd H2 l (.lst (vs ++ zs)) →
            prom K w r E repL H (cts w.ws (item w.ws s (R + 1)) cl m k (acc ++ l2)) Q → ∃ m2, m2 < m + 1 ∧ ∃ (j : Nat) (acc : List Sm) (vs : List V), [some (.ref r), some (.int (d : Int)), some (.str cl), some (.ref l)] = [some (V.ref r), some (.int (d : Int)), some (.str cl), some (.ref l)] ∧ Fr [r] H H3 ∧ H3 l = some (.lst vs) ∧ TDs H3 vs (Sm.datas acc) ∧ RS K w r H3 j ∧ j ≤ w.ws.length ∧ w.ws.length + 1 ≤ m2 + j ∧ acc.length ≤ j ∧
            prom K w r E repL H (cts w.ws (item w.ws s (R + 1)) cl m2 j acc) Q := by
          intro l2 k H2 H3 zs e f2 h2 a2 rs2 z2 e3 q2
          subst e3
          obtain ⟨p1, p2, p3⟩ := hpay.1 _ _ _ e
          have p4 := hpay.2 _ _ _ e
          have fn : Fr [l] H2 (upd H2 l (.lst (vs ++ zs))) := Fr.put h2 (List.mem_singleton.mpr rfl)
          refine ⟨m, Nat.lt_succ_self _, k, acc ++ l2, vs ++ zs, rfl, f2.out hl, upd_same, ?_, rs2.fr fn (by simpa using Ne.symm hlr), p2, by omega, ?_, q2⟩
          · rw [Sm.datas_map, List.map_append, ← Sm.datas_map, ← Sm.datas_map]
            exact (a2.fr fn).append (z2.fr fn)
          · rw [List.length_append]
            omega
        have hvs : vs.length + 1 ≤ 1000000 := by omega
        generalize hA : item w.ws s (R + 1) j = A at q'
        rw [item] at hA
        refine i_eq rfl rs' (fun c3 => ?_) fun c3 => ?_
        · rw [if_pos c3] at hA
          refine ⟨_, rfl, .inl ⟨rfl, _, sqL hl'⟩, mt rfl rs' (fun _ _ _ => rfl) ⟨r, j, rfl, rs', c3, ?_⟩⟩
          rw [← hA, bassoc] at q'
          refine (prom.step (R := _) q' fr).bindE fun dd k H2 v e2 f2 rs2 hv q2 => ?_
          rw [e2] at hA
          have hl2 := f2.oth _ _ hl' (by simpa using hlr)
          refine ⟨l, vs, v, rfl, rfl, hl2, Nat.lt_of_le_of_lt (show vs.length ≤ 1000000 by omega) (by decide), ?_⟩
          refine nxt [dd] k H2 _ [v] (by rw [item, if_pos c3, e2]; rfl) (fr.trans f2) hl2 (ha.fr f2) rs2 (by rw [Sm.datas, Sm.datas]; exact .cons hv .nil) rfl ?_
          rw [e2] at q'
          exact q'
        · rw [if_neg c3] at hA
          refine ⟨_, rfl, .inl ⟨rfl, _, sqL hl'⟩, mt rfl rs' (fun _ _ _ => rfl) ⟨_, rfl, ?_⟩⟩
          rw [hS R rfl]
          refine ⟨r, j, rfl, rs', trivial, ?_⟩
          rw [← hA] at q'
          refine (prom.step (R := _) q' fr).bindE fun l2 k H2 v e2 f2 rs2 hv q2 => ?_
          have hl2 := f2.oth _ _ hl' (by simpa using hlr)
          obtain ⟨t, zs, rfl, ht, hz⟩ := TD.tup_inv hv
          have ei : item w.ws s (R + 1) j = .ok l2 k := by rw [item, if_neg c3, e2]
          have p4 := hpay.2 _ _ _ ei
          have zl : zs.length = l2.length := by rw [hz.length, Sm.datas_map, List.length_map]
          refine ⟨l, t, vs, zs, rfl, rfl, hl2, sqT ht, mil (by omega), ?_⟩
          refine nxt l2 k H2 _ zs ei (fr.trans f2) hl2 (ha.fr f2) rs2 hz rfl ?_
          rw [e2] at q'
          exact q'
theorem ok_cts (T : Txt K mg) {d R k : Nat} (hd : d + R = 41) {s : Nat → Nat → Rs (List Sm)} (hs : ∀ R', R = R' + 1 → PayI w.ws (s R)) {spS : Sp} (hS : ∀ R', R = R' + 1 → spS = spRd K w yes repL d (s R)) (GS : MetS R0 wd K mg base k (aR K) "statement" spS) (hk : 4 ≤ k) :
    MetS R0 wd K mg base (k + 1) (aR K) "contents" (spCts K w d (item w.ws s R)) := by
  refine met_s T.d_R_contents T.cR T.m_contents sc_R_contents (fun _ _ _ _ _ _ us hl => match us, hl with | [_, _, _], _ => rfl) (fun vs H Q E h => ?_) (fun cdv A outer s H vs Q E hr h => ⟨t_R_contents K E w spS, ?_, pure_cts T hd hs hS vs H Q E h⟩)
  · obtain ⟨r, i, cl, rfl, _⟩ := h
    rfl
  · exact (pss_cons (ps_set (i := 3) sc_R_contents.nd rfl (Or.inl rfl) (pe_lst pa_nil))
      (pss_cons (ps_while ownE (pt_cmpR op_ne (pm0 (ok_text T) hr (by omega) passE (pv 0)) (pv 2) (nomark _)) (pss_cons (ps_if (pt_cmpR op_eq (pm0 (ok_text T) hr (by omega) passE (pv 0)) pe_str (nomark _)) (pss_one (ps_expr (pm (ok_fail T) hr (by omega) passE (pv 0) (pa_cons pe_str pa_nil)))) pss_nil)
      (pss_cons (ps_if (pt_cmpR op_gt (pv 1) (pe_gc rfl T.i_DEEPEST_STATEMENT) (nomark _)) (pss_one (ps_expr (pm (ok_fail T) hr (by omega) passE (pv 0) (pa_cons pe_str pa_nil)))) pss_nil)
      (pss_one (ps_if (pt_cmpR op_eq (pm0 (ok_text T) hr (by omega) passE (pv 0)) pe_str (nomark _)) (pss_one (ps_expr (pe_bm PySem.F.plainAttrs_list PySem.F.slot_list_append PySem.F.type_list_append mt_append (pv 3) (pa_cons (pm0 (ok_dcl T) hr (by omega) passE (pv 0)) pa_nil)))) (pss_one (ps_expr (pe_bm PySem.F.plainAttrs_list PySem.F.slot_list_extend PySem.F.type_list_extend mt_extT (pv 3) (pa_cons (pm GS hr (by omega) passE (pv 0) (pa_cons (pv 1) pa_nil)) pa_nil)))))))))
      (pss_one (ps_ret (pe_callTy call_tuple_of rfl T.f_tuple (by decide +kernel) (pa_cons (pv 3) pa_nil))))))
end
end K18

/-! A7: flowform.reader: blocks, bodies, the statements. -/
namespace K18
open PySem PySem.Spec L2
open PyProof.Rows hiding St
abbrev N_R_block : List Str := ["self", "depth", "found"]
theorem sc_R_block : FnScope N_R_block ["self", "depth"] (defScope s_R_block) := ⟨rfl, rfl, rfl, by decide +kernel, rfl, by decide +kernel, by decide +kernel⟩
def t_R_block (K : PySem.W.Frag) (E : XK) (w : Rw) (spC : Sp) : TS :=
  (tSeq (tDrop (tMet (He.ga K "Reader") "expect" (spExp K w) E (tVar 0) (tCons (tC (.str "{")) tNil)))
  (tSeq (tAsg (tMet (He.ga K "Reader") "contents" spC E (tVar 0) (tCons (tVar 1) (tCons (tC (.str "}")) tNil))) (gName 2))
  (tSeq (tDrop (tMet (He.ga K "Reader") "expect" (spExp K w) E (tVar 0) (tCons (tC (.str "}")) tNil)))
  (tRet (tVar 2)))))
abbrev N_R_body : List Str := ["self", "depth"]
theorem sc_R_body : FnScope N_R_body ["self", "depth"] (defScope s_R_body) := ⟨rfl, rfl, rfl, by decide +kernel, rfl, by decide +kernel, by decide +kernel⟩
def t_R_body (K : PySem.W.Frag) (E : XK) (w : Rw) (spB spS : Sp) : TS :=
  (tSeq (tIfS (tTest (tOp rEq (tMet (He.ga K "Reader") "text" (spText K w) E (tVar 0) tNil) (tC (.str "{")))) (tRet (tMet (He.ga K "Reader") "block" spB E (tVar 0) (tCons (tVar 1) tNil))) tNext)
  (tSeq (tIfS (tTest (tOp rGtI (tVar 1) (tC (.int 40)))) (tDrop (tMet (He.ga K "Reader") "fail" (spFail K w) E (tVar 0) (tCons (tC (.str "nested too deeply")) tNil))) tNext)
  (tSeq (tIfS (tTest (tOp rEq (tMet (He.ga K "Reader") "text" (spText K w) E (tVar 0) tNil) (tC (.str "let")))) (tDrop (tMet (He.ga K "Reader") "fail" (spFail K w) E (tVar 0) (tCons (tC (.str "let is not allowed here")) tNil))) tNext)
  (tRet (tMet (He.ga K "Reader") "statement" spS E (tVar 0) (tCons (tVar 1) tNil))))))
theorem four_le : 4 ≤ sizeLine := by decide
section
variable {wd : World} {K : PySem.W.Frag} {mg : Str → Option Value} {base : Heap} {w : Rw}
theorem pure_blc (T : Txt K mg) {d : Nat} {u : Nat → Rs (List Sm)} (vs : List V) (H : Hp) (Q : VK) (E : XK) (h : spRd K w yes repL d (blc w.ws u) vs H Q E) : t_R_block K E w (spCts K w d u) { nx := fun _ H' => Q .non H', rt := Q } (start N_R_block vs) H := by
  obtain ⟨r, i, rfl, rs, _, q⟩ := h
  refine g_exp rfl rs (q.bindE fun _ j H1 _ e1 f1 rs1 _ q1 => ?_)
  obtain ⟨_, a2, _⟩ := xpt_ok2 w.ws (by decide +kernel) e1
  refine mt rfl rs1 (fun _ _ _ => rfl) ⟨_, rfl, r, j, _, rfl, rs1, a2, q1.bind fun l k H2 v f2 rs2 hv q2 => ?_⟩
  refine g_exp rfl rs2 (q2.bind fun _ m H3 _ f3 rs3 _ q3 => ?_)
  exact ⟨_, rfl, q3 H3 v Fr.refl rs3 (hv.fr f3)⟩
theorem ok_blc (T : Txt K mg) {d k : Nat} {u : Nat → Rs (List Sm)} (GC : MetS R0 wd K mg base k (aR K) "contents" (spCts K w d u)) (hk : 4 ≤ k) : MetS R0 wd K mg base (k + 1) (aR K) "block" (spRd K w yes repL d (blc w.ws u)) := by
  refine met_s T.d_R_block T.cR T.m_block sc_R_block (fun _ _ _ _ _ _ us hl => match us, hl with | [_, _], _ => rfl) (fun vs H Q E h => ?_) (fun cdv A outer s H vs Q E hr h => ⟨t_R_block K E w (spCts K w d u), ?_, pure_blc T vs H Q E h⟩)
  · obtain ⟨r, i, rfl, _⟩ := h
    rfl
  · exact (pss_cons (ps_expr (pm (ok_expect T) hr (by omega) passE (pv 0) (pa_cons pe_str pa_nil)))
      (pss_cons (ps_set (i := 2) sc_R_block.nd rfl (Or.inl rfl) (pm GC hr (by omega) passE (pv 0) (pa_cons (pv 1) (pa_cons pe_str pa_nil))))
      (pss_cons (ps_expr (pm (ok_expect T) hr (by omega) passE (pv 0) (pa_cons pe_str pa_nil)))
      (pss_one (ps_ret (pv 2))))))
theorem pure_bdy (T : Txt K mg) {d R : Nat} (hd : d + R = 41) {s : Nat → Nat → Rs (List Sm)} {spS : Sp} (hS : ∀ R', R = R' + 1 → spS = spRd K w yes repL d (s R))
    (vs : List V) (H : Hp) (Q : VK) (E : XK) (h : spRd K w yes repL d (bdy w.ws s R) vs H Q E) : t_R_body K E w (spRd K w yes repL d (blc w.ws (item w.ws s R))) spS { nx := fun _ H' => Q .non H', rt := Q } (start N_R_body vs) H := by
  obtain ⟨r, i, rfl, rs, _, q⟩ := h
  unfold bdy at q
  refine i_eq rfl rs (fun c => ?_) fun c => ?_
  · rw [if_pos c] at q
    exact mt rfl rs (fun _ _ _ => rfl) ⟨_, rfl, r, i, rfl, rs, trivial, q⟩
  · rw [if_neg c] at q
    refine ⟨_, rfl, _, _, rfl, rfl, _, rfl, ?_⟩
    cases R with
    | zero =>
      refine iteTb (decide_eq_true (by omega)) ?_
      exact g_fail rfl rs q
    | succ R =>
      refine iteFb (decide_eq_false (by omega)) ?_
      refine i_eq rfl rs (fun e => ?_) fun e => ?_
      · have q' : prom K w r E repL H (if tk w.ws i = "let" then .no i "let is not allowed here" else s (R + 1) i) Q := q
        rw [if_pos e] at q'
        exact g_fail rfl rs q'
      · have q' : prom K w r E repL H (if tk w.ws i = "let" then .no i "let is not allowed here" else s (R + 1) i) Q := q
        rw [if_neg e] at q'
        rw [hS R rfl]
        exact mt rfl rs (fun _ _ _ => rfl) ⟨_, rfl, r, i, rfl, rs, trivial, q'⟩
theorem ok_bdy (T : Txt K mg) {d R k : Nat} (hd : d + R = 41) {s : Nat → Nat → Rs (List Sm)} {spS : Sp} (hS : ∀ R', R = R' + 1 → spS = spRd K w yes repL d (s R)) (GS : MetS R0 wd K mg base k (aR K) "statement" spS) (GB : MetS R0 wd K mg base (k + 2) (aR K) "block" (spRd K w yes repL d (blc w.ws (item w.ws s R)))) (hk : 4 ≤ k) :
    MetS R0 wd K mg base (k + 3) (aR K) "body" (spRd K w yes repL d (bdy w.ws s R)) := by
  refine met_s T.d_R_body T.cR T.m_body sc_R_body (fun _ _ _ _ _ _ us hl => match us, hl with | [_, _], _ => rfl) (fun vs H Q E h => ?_) (fun cdv A outer s' H vs Q E hr h => ⟨t_R_body K E w (spRd K w yes repL d (blc w.ws (item w.ws s R))) spS, ?_, pure_bdy T hd hS vs H Q E h⟩)
  · obtain ⟨r, i, rfl, _⟩ := h
    rfl
  · exact (pss_cons (ps_if (pt_cmpR op_eq (pm0 (ok_text T) hr (by omega) passE (pv 0)) pe_str (nomark _)) (pss_one (ps_ret (pm GB hr (by omega) passE (pv 0) (pa_cons (pv 1) pa_nil)))) pss_nil)
      (pss_cons (ps_if (pt_cmpR op_gt (pv 1) (pe_gc rfl T.i_DEEPEST_STATEMENT) (nomark _)) (pss_one (ps_expr (pm (ok_fail T) hr (by omega) passE (pv 0) (pa_cons pe_str pa_nil)))) pss_nil)
      (pss_cons (ps_if (pt_cmpR op_eq (pm0 (ok_text T) hr (by omega) passE (pv 0)) pe_str (nomark _)) (pss_one (ps_expr (pm (ok_fail T) hr (by omega) passE (pv 0) (pa_cons pe_str pa_nil)))) pss_nil)
      (pss_one (ps_ret (pm GS hr (by omega) passE (pv 0) (pa_cons (pv 1) pa_nil)))))))
end
abbrev N_R_loop : List Str := ["self", "label", "depth", "condition"]
theorem sc_R_loop : FnScope N_R_loop ["self", "label", "depth"] (defScope s_R_loop) := ⟨rfl, rfl, rfl, by decide +kernel, rfl, by decide +kernel, by decide +kernel⟩
def t_R_loop (K : PySem.W.Frag) (E : XK) (w : Rw) (spY : Sp) : TS :=
  (tSeq (tIfS (tTest (tOp rEq (tMet (He.ga K "Reader") "take" (spTake K w) E (tVar 0) tNil) (tC (.str "while")))) (tSeq (tDrop (tMet (He.ga K "Reader") "expect" (spExp K w) E (tVar 0) (tCons (tC (.str "(")) tNil)))
  (tSeq (tAsg (tMet (He.ga K "Reader") "condition" (spUn K w 0 (cnd w.ws (uny w.ws 20))) E (tVar 0) (tCons (tC (.int 0)) tNil)) (gName 3))
  (tSeq (tDrop (tMet (He.ga K "Reader") "expect" (spExp K w) E (tVar 0) (tCons (tC (.str ")")) tNil)))
  (tRet (tTup (tCons (tC (.str "while")) (tCons (tVar 1) (tCons (tVar 3) (tCons (tMet (He.ga K "Reader") "body" spY E (tVar 0) (tCons (tOp rAddI (tVar 2) (tC (.int 1))) tNil)) tNil))))))))) tNext)
  (tSeq (tDrop (tMet (He.ga K "Reader") "expect" (spExp K w) E (tVar 0) (tCons (tC (.str "(")) tNil)))
  (tSeq (tDrop (tMet (He.ga K "Reader") "expect" (spExp K w) E (tVar 0) (tCons (tC (.str ";")) tNil)))
  (tSeq (tDrop (tMet (He.ga K "Reader") "expect" (spExp K w) E (tVar 0) (tCons (tC (.str ";")) tNil)))
  (tSeq (tDrop (tMet (He.ga K "Reader") "expect" (spExp K w) E (tVar 0) (tCons (tC (.str ")")) tNil)))
  (tRet (tTup (tCons (tC (.str "for")) (tCons (tVar 1) (tCons (tMet (He.ga K "Reader") "body" spY E (tVar 0) (tCons (tOp rAddI (tVar 2) (tC (.int 1))) tNil)) tNil))))))))))
def vOpt : Option Str → V
  | none => .non
  | some x => .str x
theorem TD.opt {H : Hp} : ∀ l : Option Str, TD H (vOpt l) (optS l)
  | none => .non
  | some x => .str x
def spLop (K : PySem.W.Frag) (w : Rw) (d : Nat) (u : Option Str → Nat → Rs Sm) : Sp := fun vs H Q E => ∃ (r : Addr) (i : Nat) (l : Option Str), vs = [.ref r, vOpt l, .int (d : Int)] ∧ RS K w r H i ∧ prom K w r E repS H (u l i) Q
section
variable {wd : World} {K : PySem.W.Frag} {mg : Str → Option Value} {base : Heap} {w : Rw}
theorem pure_lop (T : Txt K mg) {d R : Nat} {s : Nat → Nat → Rs (List Sm)} (vs : List V) (H : Hp) (Q : VK) (E : XK) (h : spLop K w d (lop w.ws s R) vs H Q E) : t_R_loop K E w (spRd K w yes repL (d + 1) (bdy w.ws s R)) { nx := fun _ H' => Q .non H', rt := Q } (start N_R_loop vs) H := by
  obtain ⟨r, i, l, rfl, rs, q⟩ := h
  unfold lop at q
  refine g_take rfl rs fun H1 f1 rs1 => ⟨rfl, _, rfl, ?_⟩
  have q1 := prom.step (R := _) q f1
  by_cases c : tk w.ws i = "while"
  · rw [if_pos c] at q1
    refine iteTb (str_eqT c) ?_
    refine g_exp rfl rs1 (q1.bind fun _ j H2 _ f2 rs2 _ q2 => ?_)
    refine mt rfl rs2 (fun _ _ _ => rfl) ⟨r, j, rfl, rs2, q2.bind fun c2 k H3 v f3 rs3 hv q3 => ?_⟩
    refine g_exp rfl rs3 (q3.bind fun _ m H4 _ f4 rs4 _ q4 => ?_)
    refine ⟨_, rfl, _, rfl, mt rfl rs4 (fun _ _ _ => rfl) ⟨_, rfl, _, _, rfl, rfl, r, m, rfl, rs4, trivial, q4.bind fun b o H5 u f5 rs5 hu q5 => ⟨four_le, fun p hp => ?_⟩⟩⟩
    have fn : Fr [] H5 (upd H5 p (.tup [.str "while", vOpt l, v, u])) := Fr.new hp
    exact q5 _ _ (fn.mono (by simp)) (rs5.fr fn (by simp)) (by rw [repS, Sm.data]; exact TD.mk4 upd_same (.str _) (.opt l) (((hv.fr f4).fr f5).fr fn) (hu.fr fn))
  · rw [if_neg c] at q1
    refine iteFb (str_eqF c) ?_
    refine g_exp rfl rs1 (q1.bind fun _ j H2 _ f2 rs2 _ q2 => ?_)
    refine g_exp rfl rs2 (q2.bind fun _ k H3 _ f3 rs3 _ q3 => ?_)
    refine g_exp rfl rs3 (q3.bind fun _ m H4 _ f4 rs4 _ q4 => ?_)
    refine g_exp rfl rs4 (q4.bind fun _ n H5 _ f5 rs5 _ q5 => ?_)
    refine ⟨_, rfl, mt rfl rs5 (fun _ _ _ => rfl) ⟨_, rfl, _, _, rfl, rfl, r, n, rfl, rs5, trivial, q5.bind fun b o H6 u f6 rs6 hu q6 => ⟨three_le, fun p hp => ?_⟩⟩⟩
    have fn : Fr [] H6 (upd H6 p (.tup [.str "for", vOpt l, u])) := Fr.new hp
    exact q6 _ _ (fn.mono (by simp)) (rs6.fr fn (by simp)) (by rw [repS, Sm.data]; exact TD.mk3 upd_same (.str _) (.opt l) (hu.fr fn))
theorem ok_lop (T : Txt K mg) {d R k : Nat} {s : Nat → Nat → Rs (List Sm)} (GY : MetS R0 wd K mg base k (aR K) "body" (spRd K w yes repL (d + 1) (bdy w.ws s R))) (hk : 65 ≤ k) : MetS R0 wd K mg base (k + 1) (aR K) "loop" (spLop K w d (lop w.ws s R)) := by
  refine met_s T.d_R_loop T.cR T.m_loop sc_R_loop (fun _ _ _ _ _ _ us hl => match us, hl with | [_, _, _], _ => rfl) (fun vs H Q E h => ?_) (fun cdv A outer s' H vs Q E hr h => ⟨t_R_loop K E w (spRd K w yes repL (d + 1) (bdy w.ws s R)), ?_, pure_lop T vs H Q E h⟩)
  · obtain ⟨r, i, l, rfl, _⟩ := h
    rfl
  · exact (pss_cons (ps_if (pt_cmpR op_eq (pm0 (ok_take T) hr (by omega) passE (pv 0)) pe_str (nomark _)) (pss_cons (ps_expr (pm (ok_expect T) hr (by omega) passE (pv 0) (pa_cons pe_str pa_nil)))
      (pss_cons (ps_set (i := 3) sc_R_loop.nd rfl (Or.inl rfl) (pm (ok_cond0 T) hr (by omega) passE (pv 0) (pa_cons pe_int pa_nil)))
      (pss_cons (ps_expr (pm (ok_expect T) hr (by omega) passE (pv 0) (pa_cons pe_str pa_nil)))
      (pss_one (ps_ret (pe_tup (pa_cons pe_str (pa_cons (pv 1) (pa_cons (pv 3) (pa_cons (pm GY hr (by omega) passE (pv 0) (pa_cons (pe_op op_add (pv 2) pe_int) pa_nil)) pa_nil)))))))))) pss_nil)
      (pss_cons (ps_expr (pm (ok_expect T) hr (by omega) passE (pv 0) (pa_cons pe_str pa_nil)))
      (pss_cons (ps_expr (pm (ok_expect T) hr (by omega) passE (pv 0) (pa_cons pe_str pa_nil)))
      (pss_cons (ps_expr (pm (ok_expect T) hr (by omega) passE (pv 0) (pa_cons pe_str pa_nil)))
      (pss_cons (ps_expr (pm (ok_expect T) hr (by omega) passE (pv 0) (pa_cons pe_str pa_nil)))
      (pss_one (ps_ret (pe_tup (pa_cons pe_str (pa_cons (pv 1) (pa_cons (pm GY hr (by omega) passE (pv 0) (pa_cons (pe_op op_add (pv 2) pe_int) pa_nil)) pa_nil)))))))))))
end
abbrev N_R_choice : List Str := ["self", "depth", "condition", "first", "second"]
theorem sc_R_choice : FnScope N_R_choice ["self", "depth"] (defScope s_R_choice) := ⟨rfl, rfl, rfl, by decide +kernel, rfl, by decide +kernel, by decide +kernel⟩
def t_R_choice (K : PySem.W.Frag) (E : XK) (w : Rw) (spY : Sp) : TS :=
  (tSeq (tDrop (tMet (He.ga K "Reader") "expect" (spExp K w) E (tVar 0) (tCons (tC (.str "if")) tNil)))
  (tSeq (tDrop (tMet (He.ga K "Reader") "expect" (spExp K w) E (tVar 0) (tCons (tC (.str "(")) tNil)))
  (tSeq (tAsg (tMet (He.ga K "Reader") "condition" (spUn K w 0 (cnd w.ws (uny w.ws 20))) E (tVar 0) (tCons (tC (.int 0)) tNil)) (gName 2))
  (tSeq (tDrop (tMet (He.ga K "Reader") "expect" (spExp K w) E (tVar 0) (tCons (tC (.str ")")) tNil)))
  (tSeq (tAsg (tMet (He.ga K "Reader") "body" spY E (tVar 0) (tCons (tOp rAddI (tVar 1) (tC (.int 1))) tNil)) (gName 3))
  (tSeq (tAsg (tTup tNil) (gName 4))
  (tSeq (tIfS (tTest (tOp rEq (tMet (He.ga K "Reader") "text" (spText K w) E (tVar 0) tNil) (tC (.str "else")))) (tSeq (sFldAug K (tVar 0) (tC (.int 1)) rAdd "at")
  (tAsg (tMet (He.ga K "Reader") "body" spY E (tVar 0) (tCons (tOp rAddI (tVar 1) (tC (.int 1))) tNil)) (gName 4))) tNext)
  (tRet (tTup (tCons (tC (.str "if")) (tCons (tVar 2) (tCons (tVar 3) (tCons (tVar 4) tNil)))))))))))))
section
variable {wd : World} {K : PySem.W.Frag} {mg : Str → Option Value} {base : Heap} {w : Rw}
theorem pure_chc (T : Txt K mg) {d R : Nat} {s : Nat → Nat → Rs (List Sm)} (vs : List V) (H : Hp) (Q : VK) (E : XK) (h : spRd K w (· = "if") repS d (chc w.ws s R) vs H Q E) : t_R_choice K E w (spRd K w yes repL (d + 1) (bdy w.ws s R)) { nx := fun _ H' => Q .non H', rt := Q } (start N_R_choice vs) H := by
  obtain ⟨r, i, rfl, rs, hp, q⟩ := h
  unfold chc at q
  refine g_exp rfl rs (prom_xpt hp fun H1 f1 rs1 => ?_)
  refine g_exp rfl rs1 ((prom.step (R := _) q f1).bind fun _ j H2 _ f2 rs2 _ q2 => ?_)
  refine mt rfl rs2 (fun _ _ _ => rfl) ⟨r, j, rfl, rs2, q2.bind fun c2 k H3 v f3 rs3 hv q3 => ?_⟩
  refine g_exp rfl rs3 (q3.bind fun _ m H4 _ f4 rs4 _ q4 => ?_)
  refine mt rfl rs4 (fun _ _ _ => rfl) ⟨_, rfl, _, _, rfl, rfl, r, m, rfl, rs4, trivial, q4.bind fun b o H5 u f5 rs5 hu q5 => ?_⟩
  have hv5 := (TD.fr (TD.fr hv f4) f5)
  refine ⟨Nat.zero_le _, fun e he => ?_⟩
  have fe : Fr [] H5 (upd H5 e (.tup [])) := Fr.new he
  have rs6 := rs5.fr fe (by simp)
  have q6 := prom.step (R := _) q5 (fe.mono (by simp))
  have hv6 := TD.fr hv5 fe
  have hu6 := TD.fr hu fe
  refine i_eq rfl rs6 (fun c => ?_) fun c => ?_
  · rw [if_pos c] at q6
    refine g_inc T rfl rs6 fun H7 f7 rs7 => ?_
    refine mt rfl rs7 (fun _ _ _ => rfl) ⟨_, rfl, _, _, rfl, rfl, r, o + 1, rfl, rs7, trivial, (prom.step (R := _) q6 f7).bind fun g p H8 z f8 rs8 hz q8 => ?_⟩
    refine ⟨_, rfl, _, rfl, _, rfl, four_le, fun p hp => ?_⟩
    have fn : Fr [] H8 (upd H8 p (.tup [.str "if", v, u, z])) := Fr.new hp
    exact q8 _ _ (fn.mono (by simp)) (rs8.fr fn (by simp)) (by rw [repS, Sm.data]; exact TD.mk4 upd_same (.str _) (((hv6.fr f7).fr f8).fr fn) (((hu6.fr f7).fr f8).fr fn) (TD.fr hz fn))
  · rw [if_neg c] at q6
    refine ⟨_, rfl, _, rfl, _, rfl, four_le, fun p hp => ?_⟩
    have fn : Fr [] (upd H5 e (.tup [])) (upd (upd H5 e (.tup [])) p (.tup [.str "if", v, u, .ref e])) := Fr.new hp
    exact q6 _ _ (fn.mono (by simp)) (rs6.fr fn (by simp)) (by rw [repS, Sm.data]; exact TD.mk4 upd_same (.str _) (hv6.fr fn) (hu6.fr fn) (.tup (fn.tup _ _ upd_same) (by rw [Sm.datas]; exact .nil)))
theorem ok_chc (T : Txt K mg) {d R k : Nat} {s : Nat → Nat → Rs (List Sm)} (GY : MetS R0 wd K mg base k (aR K) "body" (spRd K w yes repL (d + 1) (bdy w.ws s R))) (hk : 65 ≤ k) : MetS R0 wd K mg base (k + 1) (aR K) "choice" (spRd K w (· = "if") repS d (chc w.ws s R)) := by
  refine met_s T.d_R_choice T.cR T.m_choice sc_R_choice (fun _ _ _ _ _ _ us hl => match us, hl with | [_, _], _ => rfl) (fun vs H Q E h => ?_) (fun cdv A outer s' H vs Q E hr h => ⟨t_R_choice K E w (spRd K w yes repL (d + 1) (bdy w.ws s R)), ?_, pure_chc T vs H Q E h⟩)
  · obtain ⟨r, i, rfl, _⟩ := h
    rfl
  · exact (pss_cons (ps_expr (pm (ok_expect T) hr (by omega) passE (pv 0) (pa_cons pe_str pa_nil)))
      (pss_cons (ps_expr (pm (ok_expect T) hr (by omega) passE (pv 0) (pa_cons pe_str pa_nil)))
      (pss_cons (ps_set (i := 2) sc_R_choice.nd rfl (Or.inl rfl) (pm (ok_cond0 T) hr (by omega) passE (pv 0) (pa_cons pe_int pa_nil)))
      (pss_cons (ps_expr (pm (ok_expect T) hr (by omega) passE (pv 0) (pa_cons pe_str pa_nil)))
      (pss_cons (ps_set (i := 3) sc_R_choice.nd rfl (Or.inl rfl) (pm GY hr (by omega) passE (pv 0) (pa_cons (pe_op op_add (pv 1) pe_int) pa_nil)))
      (pss_cons (ps_set (i := 4) sc_R_choice.nd rfl (Or.inl rfl) (pe_tup pa_nil))
      (pss_cons (ps_if (pt_cmpR op_eq (pm0 (ok_text T) hr (by omega) passE (pv 0)) pe_str (nomark _)) (pss_cons (ps_fldaug (pv 0) pe_int in_add)
      (pss_one (ps_set (i := 4) sc_R_choice.nd rfl (Or.inl rfl) (pm GY hr (by omega) passE (pv 0) (pa_cons (pe_op op_add (pv 1) pe_int) pa_nil))))) pss_nil)
      (pss_one (ps_ret (pe_tup (pa_cons pe_str (pa_cons (pv 2) (pa_cons (pv 3) (pa_cons (pv 4) pa_nil))))))))))))))
end
abbrev N_R_attempt : List Str := ["self", "depth", "body"]
theorem sc_R_attempt : FnScope N_R_attempt ["self", "depth"] (defScope s_R_attempt) := ⟨rfl, rfl, rfl, by decide +kernel, rfl, by decide +kernel, by decide +kernel⟩
def t_R_attempt (K : PySem.W.Frag) (E : XK) (w : Rw) (spB : Sp) : TS :=
  (tSeq (tDrop (tMet (He.ga K "Reader") "expect" (spExp K w) E (tVar 0) (tCons (tC (.str "try")) tNil)))
  (tSeq (tAsg (tMet (He.ga K "Reader") "block" spB E (tVar 0) (tCons (tOp rAddI (tVar 1) (tC (.int 1))) tNil)) (gName 2))
  (tSeq (tDrop (tMet (He.ga K "Reader") "expect" (spExp K w) E (tVar 0) (tCons (tC (.str "finally")) tNil)))
  (tRet (tTup (tCons (tC (.str "try")) (tCons (tVar 2) (tCons (tMet (He.ga K "Reader") "block" spB E (tVar 0) (tCons (tOp rAddI (tVar 1) (tC (.int 1))) tNil)) tNil))))))))
section
variable {wd : World} {K : PySem.W.Frag} {mg : Str → Option Value} {base : Heap} {w : Rw}
theorem pure_atm (T : Txt K mg) {d R : Nat} {s : Nat → Nat → Rs (List Sm)} (vs : List V) (H : Hp) (Q : VK) (E : XK) (h : spRd K w (· = "try") repS d (atm w.ws s R) vs H Q E) : t_R_attempt K E w (spRd K w yes repL (d + 1) (blc w.ws (item w.ws s R))) { nx := fun _ H' => Q .non H', rt := Q } (start N_R_attempt vs) H := by
  obtain ⟨r, i, rfl, rs, hp, q⟩ := h
  unfold atm at q
  refine g_exp rfl rs (prom_xpt hp fun H1 f1 rs1 => ?_)
  refine mt rfl rs1 (fun _ _ _ => rfl) ⟨_, rfl, _, _, rfl, rfl, r, i + 1, rfl, rs1, trivial, (prom.step (R := _) q f1).bind fun b j H2 v f2 rs2 hv q2 => ?_⟩
  refine g_exp rfl rs2 (q2.bind fun _ k H3 _ f3 rs3 _ q3 => ?_)
  refine ⟨_, rfl, mt rfl rs3 (fun _ _ _ => rfl) ⟨_, rfl, _, _, rfl, rfl, r, k, rfl, rs3, trivial, q3.bind fun l m H4 u f4 rs4 hu q4 => ⟨three_le, fun p hp => ?_⟩⟩⟩
  have fn : Fr [] H4 (upd H4 p (.tup [.str "try", v, u])) := Fr.new hp
  exact q4 _ _ (fn.mono (by simp)) (rs4.fr fn (by simp)) (by rw [repS, Sm.data]; exact TD.mk3 upd_same (.str _) (TD.fr (TD.fr (TD.fr hv f3) f4) fn) (TD.fr hu fn))
theorem ok_atm (T : Txt K mg) {d R k : Nat} {s : Nat → Nat → Rs (List Sm)} (GB : MetS R0 wd K mg base k (aR K) "block" (spRd K w yes repL (d + 1) (blc w.ws (item w.ws s R)))) (hk : 4 ≤ k) : MetS R0 wd K mg base (k + 1) (aR K) "attempt" (spRd K w (· = "try") repS d (atm w.ws s R)) := by
  refine met_s T.d_R_attempt T.cR T.m_attempt sc_R_attempt (fun _ _ _ _ _ _ us hl => match us, hl with | [_, _], _ => rfl) (fun vs H Q E h => ?_) (fun cdv A outer s' H vs Q E hr h => ⟨t_R_attempt K E w (spRd K w yes repL (d + 1) (blc w.ws (item w.ws s R))), ?_, pure_atm T vs H Q E h⟩)
  · obtain ⟨r, i, rfl, _⟩ := h
    rfl
  · exact (pss_cons (ps_expr (pm (ok_expect T) hr (by omega) passE (pv 0) (pa_cons pe_str pa_nil)))
      (pss_cons (ps_set (i := 2) sc_R_attempt.nd rfl (Or.inl rfl) (pm GB hr (by omega) passE (pv 0) (pa_cons (pe_op op_add (pv 1) pe_int) pa_nil)))
      (pss_cons (ps_expr (pm (ok_expect T) hr (by omega) passE (pv 0) (pa_cons pe_str pa_nil)))
      (pss_one (ps_ret (pe_tup (pa_cons pe_str (pa_cons (pv 2) (pa_cons (pm GB hr (by omega) passE (pv 0) (pa_cons (pe_op op_add (pv 1) pe_int) pa_nil)) pa_nil)))))))))
end
abbrev N_R_named : List Str := ["self", "depth", "name", "mark", "value"]
theorem sc_R_named : FnScope N_R_named ["self", "depth"] (defScope s_R_named) := ⟨rfl, rfl, rfl, by decide +kernel, rfl, by decide +kernel, by decide +kernel⟩
def t_R_named (K : PySem.W.Frag) (E : XK) (w : Rw) (spL : Sp) : TS :=
  (tSeq (tAsg (tMet (He.ga K "Reader") "take" (spTake K w) E (tVar 0) tNil) (gName 2))
  (tSeq (tAsg (tMet (He.ga K "Reader") "text" (spText K w) E (tVar 0) tNil) (gName 3))
  (tSeq (tIfS (tAnd (tTest (tOp rNe (tVar 3) (tC (.str "(")))) (tAnd (tTest (tOp rNe (tVar 3) (tC (.str "=")))) (tTest (tOp rNe (tVar 3) (tC (.str ":")))))) (tDrop (tMet (He.ga K "Reader") "fail" (spFail K w) E (tVar 0) (tCons (tC (.str "expected (, = or :")) tNil))) tNext)
  (tSeq (sFldAug K (tVar 0) (tC (.int 1)) rAdd "at")
  (tSeq (tIfS (tTest (tOp rEq (tVar 3) (tC (.str "(")))) (tSeq (tDrop (tMet (He.ga K "Reader") "expect" (spExp K w) E (tVar 0) (tCons (tC (.str ")")) tNil)))
  (tSeq (tDrop (tMet (He.ga K "Reader") "expect" (spExp K w) E (tVar 0) (tCons (tC (.str ";")) tNil)))
  (tRet (tTup (tCons (tC (.str "call")) (tCons (tVar 2) tNil)))))) tNext)
  (tSeq (tIfS (tTest (tOp rEq (tVar 3) (tC (.str "=")))) (tSeq (tAsg (tMet (He.ga K "Reader") "truth" (spTru K w) E (tVar 0) tNil) (gName 4))
  (tSeq (tDrop (tMet (He.ga K "Reader") "expect" (spExp K w) E (tVar 0) (tCons (tC (.str ";")) tNil)))
  (tRet (tTup (tCons (tC (.str "set")) (tCons (tVar 2) (tCons (tVar 4) tNil))))))) tNext)
  (tSeq (tIfS (tAnd (tTest (tOp rNe (tMet (He.ga K "Reader") "text" (spText K w) E (tVar 0) tNil) (tC (.str "while")))) (tTest (tOp rNe (tMet (He.ga K "Reader") "text" (spText K w) E (tVar 0) tNil) (tC (.str "for"))))) (tDrop (tMet (He.ga K "Reader") "fail" (spFail K w) E (tVar 0) (tCons (tC (.str "expected while or for")) tNil))) tNext)
  (tRet (tMet (He.ga K "Reader") "loop" spL E (tVar 0) (tCons (tVar 2) (tCons (tVar 1) tNil)))))))))))
section
variable {wd : World} {K : PySem.W.Frag} {mg : Str → Option Value} {base : Heap} {w : Rw}
theorem pure_nmd (T : Txt K mg) {d R : Nat} {s : Nat → Nat → Rs (List Sm)} (vs : List V) (H : Hp) (Q : VK) (E : XK) (h : spRd K w yes repS d (nmd w.ws s R) vs H Q E) : t_R_named K E w (spLop K w d (lop w.ws s R)) { nx := fun _ H' => Q .non H', rt := Q } (start N_R_named vs) H := by
  obtain ⟨r, i, rfl, rs, _, q⟩ := h
  unfold nmd at q
  refine g_take rfl rs fun H1 f1 rs1 => ?_
  refine g_text rfl rs1 ?_
  have q1 := prom.step (R := _) q f1
  refine ⟨_, rfl, rfl, _, rfl, ?_⟩
  by_cases c1 : tk w.ws (i + 1) = "("
  · rw [if_pos c1] at q1
    refine iteFb (str_neF c1) (iteF ?_)
    refine g_inc T rfl rs1 fun H2 f2 rs2 => ?_
    refine v_eq (k := 3) rfl (fun _ => ?_) fun z => absurd c1 z
    refine g_exp rfl rs2 ((prom.step (R := _) q1 f2).bind fun _ j H3 _ f3 rs3 _ q3 => ?_)
    refine g_exp rfl rs3 (q3.bind fun _ k H4 _ f4 rs4 _ q4 => ?_)
    refine ⟨_, rfl, two_le, fun p hp => ?_⟩
    have fn : Fr [] H4 (upd H4 p (.tup [.str "call", .str (tk w.ws i)])) := Fr.new hp
    exact q4 _ _ (fn.mono (by simp)) (rs4.fr fn (by simp)) (by rw [repS, Sm.data]; exact TD.mk2 upd_same (.str _) (.str _))
  · rw [if_neg c1] at q1
    refine iteTb (str_neT c1) ⟨_, rfl, rfl, _, rfl, ?_⟩
    by_cases c2 : tk w.ws (i + 1) = "="
    · rw [if_pos c2] at q1
      refine iteFb (str_neF c2) (iteF ?_)
      refine g_inc T rfl rs1 fun H2 f2 rs2 => ?_
      refine v_eq (k := 3) rfl (fun z => absurd z c1) fun _ => ?_
      refine v_eq (k := 3) rfl (fun _ => ?_) fun z => absurd c2 z
      refine g_truth rfl rs2 ((prom.step (R := _) q1 f2).bind fun b j H3 v f3 rs3 hv q3 => ?_)
      obtain rfl : v = .bl b := hv
      refine g_exp rfl rs3 (q3.bind fun _ k H4 _ f4 rs4 _ q4 => ?_)
      refine ⟨_, rfl, _, rfl, three_le, fun p hp => ?_⟩
      have fn : Fr [] H4 (upd H4 p (.tup [.str "set", .str (tk w.ws i), .bl b])) := Fr.new hp
      exact q4 _ _ (fn.mono (by simp)) (rs4.fr fn (by simp)) (by rw [repS, Sm.data]; exact TD.mk3 upd_same (.str _) (.str _) (.bl _))
    · rw [if_neg c2] at q1
      refine iteTb (str_neT c2) ⟨_, rfl, rfl, _, rfl, ?_⟩
      by_cases c3 : tk w.ws (i + 1) = ":"
      · rw [if_pos c3] at q1
        refine iteFb (str_neF c3) ?_
        refine g_inc T rfl rs1 fun H2 f2 rs2 => ?_
        have q2 := prom.step (R := _) q1 f2
        refine v_eq (k := 3) rfl (fun z => absurd z c1) fun _ => ?_
        refine v_eq (k := 3) rfl (fun z => absurd z c2) fun _ => ?_
        refine g_text rfl rs2 ⟨rfl, _, rfl, ?_⟩
        have fin : (tk w.ws (i + 2) = "while" ∨ tk w.ws (i + 2) = "for") → tRet (tMet (aR K) "loop" (spLop K w d (lop w.ws s R)) E (tVar 0) (tCons (tVar 2) (tCons (tVar 1) tNil))) { nx := fun _ H' => Q .non H', rt := Q } [some (.ref r), some (.int (d : Int)), some (.str (tk w.ws i)), some (.str (tk w.ws (i + 1))), none] H2 := by
          intro z
          rw [if_pos z] at q2
          exact mt rfl rs2 (fun _ _ _ => rfl) ⟨_, rfl, _, rfl, r, i + 2, some (tk w.ws i), rfl, rs2, q2⟩
        by_cases c4 : tk w.ws (i + 2) = "while"
        · refine iteFb (str_neF c4) (iteF ?_)
          exact fin (.inl c4)
        · refine iteTb (str_neT c4) ?_
          refine g_text rfl rs2 ⟨rfl, _, rfl, ?_⟩
          by_cases c5 : tk w.ws (i + 2) = "for"
          · refine iteFb (str_neF c5) ?_
            exact fin (.inr c5)
          · refine iteTb (str_neT c5) ?_
            rw [if_neg (fun z => z.elim c4 c5)] at q2
            exact g_fail rfl rs2 q2
      · rw [if_neg c3] at q1
        refine iteTb (str_neT c3) ?_
        exact g_fail rfl rs1 q1
theorem ok_nmd (T : Txt K mg) {d R k : Nat} {s : Nat → Nat → Rs (List Sm)} (GL : MetS R0 wd K mg base k (aR K) "loop" (spLop K w d (lop w.ws s R))) (hk : 4 ≤ k) : MetS R0 wd K mg base (k + 1) (aR K) "named" (spRd K w yes repS d (nmd w.ws s R)) := by
  refine met_s T.d_R_named T.cR T.m_named sc_R_named (fun _ _ _ _ _ _ us hl => match us, hl with | [_, _], _ => rfl) (fun vs H Q E h => ?_) (fun cdv A outer s' H vs Q E hr h => ⟨t_R_named K E w (spLop K w d (lop w.ws s R)), ?_, pure_nmd T vs H Q E h⟩)
  · obtain ⟨r, i, rfl, _⟩ := h
    rfl
  · exact (pss_cons (ps_set (i := 2) sc_R_named.nd rfl (Or.inl rfl) (pm0 (ok_take T) hr (by omega) passE (pv 0)))
      (pss_cons (ps_set (i := 3) sc_R_named.nd rfl (Or.inl rfl) (pm0 (ok_text T) hr (by omega) passE (pv 0)))
      (pss_cons (ps_if (PW.pt (pw_and (pt_cmpR op_ne (pv 3) pe_str (nomark _)) (pw_and (pt_cmpR op_ne (pv 3) pe_str (nomark _)) (pw_and1 (pt_cmpR op_ne (pv 3) pe_str (nomark _)))))) (pss_one (ps_expr (pm (ok_fail T) hr (by omega) passE (pv 0) (pa_cons pe_str pa_nil)))) pss_nil)
      (pss_cons (ps_fldaug (pv 0) pe_int in_add)
      (pss_cons (ps_if (pt_cmpR op_eq (pv 3) pe_str (nomark _)) (pss_cons (ps_expr (pm (ok_expect T) hr (by omega) passE (pv 0) (pa_cons pe_str pa_nil)))
      (pss_cons (ps_expr (pm (ok_expect T) hr (by omega) passE (pv 0) (pa_cons pe_str pa_nil)))
      (pss_one (ps_ret (pe_tup (pa_cons pe_str (pa_cons (pv 2) pa_nil))))))) pss_nil)
      (pss_cons (ps_if (pt_cmpR op_eq (pv 3) pe_str (nomark _)) (pss_cons (ps_set (i := 4) sc_R_named.nd rfl (Or.inl rfl) (pm0 (ok_truth T) hr (by omega) passE (pv 0)))
      (pss_cons (ps_expr (pm (ok_expect T) hr (by omega) passE (pv 0) (pa_cons pe_str pa_nil)))
      (pss_one (ps_ret (pe_tup (pa_cons pe_str (pa_cons (pv 2) (pa_cons (pv 4) pa_nil)))))))) pss_nil)
      (pss_cons (ps_if (PW.pt (pw_and (pt_cmpR op_ne (pm0 (ok_text T) hr (by omega) passE (pv 0)) pe_str (nomark _)) (pw_and1 (pt_cmpR op_ne (pm0 (ok_text T) hr (by omega) passE (pv 0)) pe_str (nomark _))))) (pss_one (ps_expr (pm (ok_fail T) hr (by omega) passE (pv 0) (pa_cons pe_str pa_nil)))) pss_nil)
      (pss_one (ps_ret (pm GL hr (by omega) passE (pv 0) (pa_cons (pv 2) (pa_cons (pv 1) pa_nil))))))))))))
end
abbrev N_R_statement : List Str := ["self", "depth", "word"]
theorem sc_R_statement : FnScope N_R_statement ["self", "depth"] (defScope s_R_statement) := ⟨rfl, rfl, rfl, by decide +kernel, rfl, by decide +kernel, by decide +kernel⟩
def t_R_statement (K : PySem.W.Frag) (E : XK) (w : Rw) (spB spN spI spL spA : Sp) : TS :=
  (tSeq (tAsg (tMet (He.ga K "Reader") "text" (spText K w) E (tVar 0) tNil) (gName 2))
  (tSeq (tIfS (tTest (tOp rEq (tVar 2) (tC (.str ";")))) (tSeq (sFldAug K (tVar 0) (tC (.int 1)) rAdd "at")
  (tRet (tTup tNil))) tNext)
  (tSeq (tIfS (tTest (tOp rEq (tVar 2) (tC (.str "{")))) (tRet (tTup (tCons (tTup (tCons (tC (.str "block")) (tCons (tMet (He.ga K "Reader") "block" spB E (tVar 0) (tCons (tOp rAddI (tVar 1) (tC (.int 1))) tNil)) tNil))) tNil))) tNext)
  (tSeq (tIfS (tB (tMet (He.ga K "Reader") "is_name" (spIsN K w) E (tVar 0) tNil)) (tRet (tTup (tCons (tMet (He.ga K "Reader") "named" spN E (tVar 0) (tCons (tVar 1) tNil)) tNil))) tNext)
  (tSeq (tIfS (tTest (tOp rEq (tVar 2) (tC (.str "if")))) (tRet (tTup (tCons (tMet (He.ga K "Reader") "choice" spI E (tVar 0) (tCons (tVar 1) tNil)) tNil))) tNext)
  (tSeq (tIfS (tOr (tTest (tOp rEq (tVar 2) (tC (.str "while")))) (tTest (tOp rEq (tVar 2) (tC (.str "for"))))) (tRet (tTup (tCons (tMet (He.ga K "Reader") "loop" spL E (tVar 0) (tCons (tC .non) (tCons (tVar 1) tNil))) tNil))) tNext)
  (tSeq (tIfS (tOr (tTest (tOp rEq (tVar 2) (tC (.str "break")))) (tTest (tOp rEq (tVar 2) (tC (.str "continue"))))) (tRet (tTup (tCons (tMet (He.ga K "Reader") "jump" (spAt K w (fun _ => True) (jmp w.ws)) E (tVar 0) tNil) tNil))) tNext)
  (tSeq (tIfS (tTest (tOp rEq (tVar 2) (tC (.str "return")))) (tRet (tTup (tCons (tMet (He.ga K "Reader") "ending" (spAt K w (· = "return") (fin w.ws)) E (tVar 0) tNil) tNil))) tNext)
  (tSeq (tIfS (tTest (tOp rNe (tVar 2) (tC (.str "try")))) (tDrop (tMet (He.ga K "Reader") "fail" (spFail K w) E (tVar 0) (tCons (tC (.str "expected a statement")) tNil))) tNext)
  (tRet (tTup (tCons (tMet (He.ga K "Reader") "attempt" spA E (tVar 0) (tCons (tVar 1) tNil)) tNil))))))))))))
section
variable {wd : World} {K : PySem.W.Frag} {mg : Str → Option Value} {base : Heap} {w : Rw}
theorem pure_stm (T : Txt K mg) {d R : Nat} (vs : List V) (H : Hp) (Q : VK) (E : XK) (h : spRd K w yes repL d (stm w.ws (R + 1)) vs H Q E) :
    t_R_statement K E w (spRd K w yes repL (d + 1) (blc w.ws (item w.ws (fun _ => stm w.ws R) R))) (spRd K w yes repS d (nmd w.ws (fun _ => stm w.ws R) R)) (spRd K w (· = "if") repS d (chc w.ws (fun _ => stm w.ws R) R)) (spLop K w d (lop w.ws (fun _ => stm w.ws R) R)) (spRd K w (· = "try") repS d (atm w.ws (fun _ => stm w.ws R) R))
      { nx := fun _ H' => Q .non H', rt := Q } (start N_R_statement vs) H := by
  obtain ⟨r, i, rfl, rs, _, q⟩ := h
  rw [stm] at q
  refine g_text rfl rs ?_
  have one1 : ∀ {u : Rs Sm}, prom K w r E repL H (one u) Q → prom K w r E repS H u (fun v H' => 1 ≤ sizeLine ∧ ∀ p, H' p = none → Q (.ref p) (upd H' p (.tup [v]))) := fun {u} q => by
    refine prom.bind (rep := repL) q fun a j H' v fr rs' hv q' => ⟨one_le, fun p hp => ?_⟩
    have fn : Fr [] H' (upd H' p (.tup [v])) := Fr.new hp
    exact q' _ _ (fn.mono (by simp)) (rs'.fr fn (by simp)) (by rw [repL, Sm.datas, Sm.datas]; exact TD.mk1 upd_same (TD.fr hv fn))
  refine v_eq (k := 2) rfl (fun c => ?_) fun c => ?_
  · rw [if_pos c] at q
    refine g_inc T rfl rs fun H1 f1 rs1 => ?_
    refine ⟨Nat.zero_le _, fun p hp => ?_⟩
    have fn : Fr [] H1 (upd H1 p (.tup [])) := Fr.new hp
    exact q _ _ (f1.trans (fn.mono (by simp))) (rs1.fr fn (by simp)) (by rw [repL, Sm.datas]; exact .tup upd_same .nil)
  rw [if_neg c] at q
  refine v_eq (k := 2) rfl (fun c => ?_) fun c => ?_
  · rw [if_pos c] at q
    refine mt rfl rs (fun _ _ _ => rfl) ⟨_, rfl, _, _, rfl, rfl, r, i, rfl, rs, trivial, q.bind fun b j H1 v f1 rs1 hv q1 => ⟨two_le, fun p hp => ⟨one_le, fun o ho => ?_⟩⟩⟩
    have fn : Fr [] H1 (upd H1 p (.tup [.str "block", v])) := Fr.new hp
    have fo : Fr [] (upd H1 p (.tup [.str "block", v])) (upd (upd H1 p (.tup [.str "block", v])) o (.tup [.ref p])) := Fr.new ho
    exact q1 _ _ ((fn.trans fo).mono (by simp)) (rs1.fr (fn.trans fo) (by simp)) (by
      rw [repL, Sm.datas, Sm.datas, Sm.data]
      exact TD.mk1 upd_same (TD.mk2 (fo.tup _ _ upd_same) (.str _) (TD.fr hv (fn.trans fo))))
  rw [if_neg c] at q
  refine i_isn rfl rs (fun c => ?_) fun c => ?_
  · rw [if_pos c] at q
    exact mt rfl rs (fun _ _ _ => rfl) ⟨_, rfl, r, i, rfl, rs, trivial, one1 q⟩
  rw [if_neg c] at q
  refine v_eq (k := 2) rfl (fun c => ?_) fun c => ?_
  · rw [if_pos c] at q
    exact mt rfl rs (fun _ _ _ => rfl) ⟨_, rfl, r, i, rfl, rs, c, one1 q⟩
  rw [if_neg c] at q
  refine v_eq2 (k := 2) rfl (fun c => ?_) fun c => ?_
  · rw [if_pos c] at q
    exact mt rfl rs (fun _ _ _ => rfl) ⟨_, rfl, r, i, none, rfl, rs, one1 q⟩
  rw [if_neg c] at q
  refine v_eq2 (k := 2) rfl (fun c => ?_) fun c => ?_
  · rw [if_pos c] at q
    exact mt rfl rs (fun _ _ _ => rfl) ⟨r, i, rfl, rs, trivial, one1 q⟩
  rw [if_neg c] at q
  refine v_eq (k := 2) rfl (fun c => ?_) fun c => ?_
  · rw [if_pos c] at q
    exact mt rfl rs (fun _ _ _ => rfl) ⟨r, i, rfl, rs, c, one1 q⟩
  rw [if_neg c] at q
  refine v_ne (k := 2) rfl (fun c => ?_) fun c => ?_
  · rw [if_neg c] at q
    exact g_fail rfl rs q
  rw [if_pos c] at q
  exact mt rfl rs (fun _ _ _ => rfl) ⟨_, rfl, r, i, rfl, rs, c, one1 q⟩
theorem MetS.up {k j : Nat} {C : Addr} {m : Str} {sp : Sp} (G : MetS R0 wd K mg base k C m sp) (h : k ≤ j) : MetS R0 wd K mg base j C m sp := by
  obtain ⟨f, fd, ps, F, a⟩ := G.ex
  exact ⟨f, fd, ps, ⟨F.len, fun A outer s H args us vs Q E hr => F.run A outer s H args us vs Q E (hr.mono h)⟩, a⟩
/-- the level of contents with R levels left -/
def lvC (R : Nat) : Nat := 6 * R + 70
theorem ok_stm (T : Txt K mg) : ∀ R d, d + R = 41 → ∃ spS : Sp, (∀ R', R = R' + 1 → spS = spRd K w yes repL d (stm w.ws R)) ∧ MetS R0 wd K mg base (6 * R + 66) (aR K) "statement" spS := by
  intro R
  induction R with
  | zero =>
    intro d hd
    exact ⟨spNo, fun _ z => (by cases z), met_no (ps := ["self", "depth"]) T.d_R_statement T.cR T.m_statement (fun _ _ _ _ _ _ us hl => match us, hl with | [_, _], _ => rfl) _⟩
  | succ R ih =>
    intro d hd
    obtain ⟨spS, hS, GS⟩ := ih (d + 1) (by omega)
    have hs : ∀ R', R = R' + 1 → PayI w.ws ((fun (_ : Nat) => stm w.ws R) R) := fun _ _ => stm_pays w.ws R
    have GC := ok_cts T (d := d + 1) (R := R) (s := fun _ => stm w.ws R) (by omega) hs hS GS (by omega)
    have GB := ok_blc T GC (by omega)
    have GY := ok_bdy T (d := d + 1) (R := R) (s := fun _ => stm w.ws R) (by omega) hS GS GB (by omega)
    have GL := ok_lop T (d := d) GY (by omega)
    have GI := ok_chc T (d := d) GY (by omega)
    have GA := ok_atm T (d := d) GB (by omega)
    have GN := ok_nmd T GL (by omega)
    refine ⟨_, fun _ _ => rfl, ?_⟩
    have e : 6 * (R + 1) + 66 = (6 * R + 71) + 1 := by omega
    rw [e]
    refine met_s T.d_R_statement T.cR T.m_statement sc_R_statement (fun _ _ _ _ _ _ us hl => match us, hl with | [_, _], _ => rfl) (fun vs H Q E h => ?_) (fun cdv A outer s' H vs Q E hr h => ⟨t_R_statement K E w _ _ _ _ _, ?_, pure_stm T vs H Q E h⟩)
    · obtain ⟨r, i, rfl, _⟩ := h
      rfl
    · exact (pss_cons (ps_set (i := 2) sc_R_statement.nd rfl (Or.inl rfl) (pm0 (ok_text T) hr (by omega) passE (pv 0)))
      (pss_cons (ps_if (pt_cmpR op_eq (pv 2) pe_str (nomark _)) (pss_cons (ps_fldaug (pv 0) pe_int in_add)
      (pss_one (ps_ret (pe_tup pa_nil)))) pss_nil)
      (pss_cons (ps_if (pt_cmpR op_eq (pv 2) pe_str (nomark _)) (pss_one (ps_ret (pe_tup (pa_cons (pe_tup (pa_cons pe_str (pa_cons (pm GB hr (by omega) passE (pv 0) (pa_cons (pe_op op_add (pv 1) pe_int) pa_nil)) pa_nil))) pa_nil)))) pss_nil)
      (pss_cons (ps_if (pt_val (pm0 (ok_isname T) hr (by omega) passE (pv 0))) (pss_one (ps_ret (pe_tup (pa_cons (pm GN hr (by omega) passE (pv 0) (pa_cons (pv 1) pa_nil)) pa_nil)))) pss_nil)
      (pss_cons (ps_if (pt_cmpR op_eq (pv 2) pe_str (nomark _)) (pss_one (ps_ret (pe_tup (pa_cons (pm GI hr (by omega) passE (pv 0) (pa_cons (pv 1) pa_nil)) pa_nil)))) pss_nil)
      (pss_cons (ps_if (PW.pt (pw_or (pt_cmpR op_eq (pv 2) pe_str (nomark _)) (pw_or1 (pt_cmpR op_eq (pv 2) pe_str (nomark _))))) (pss_one (ps_ret (pe_tup (pa_cons (pm GL hr (by omega) passE (pv 0) (pa_cons pe_non (pa_cons (pv 1) pa_nil))) pa_nil)))) pss_nil)
      (pss_cons (ps_if (PW.pt (pw_or (pt_cmpR op_eq (pv 2) pe_str (nomark _)) (pw_or1 (pt_cmpR op_eq (pv 2) pe_str (nomark _))))) (pss_one (ps_ret (pe_tup (pa_cons (pm0 (ok_jmp T) hr (by omega) passE (pv 0)) pa_nil)))) pss_nil)
      (pss_cons (ps_if (pt_cmpR op_eq (pv 2) pe_str (nomark _)) (pss_one (ps_ret (pe_tup (pa_cons (pm0 (ok_fin T) hr (by omega) passE (pv 0)) pa_nil)))) pss_nil)
      (pss_cons (ps_if (pt_cmpR op_ne (pv 2) pe_str (nomark _)) (pss_one (ps_expr (pm (ok_fail T) hr (by omega) passE (pv 0) (pa_cons pe_str pa_nil)))) pss_nil)
      (pss_one (ps_ret (pe_tup (pa_cons (pm GA hr (by omega) passE (pv 0) (pa_cons (pv 1) pa_nil)) pa_nil)))))))))))))
end
end K18

/-! P1: flowform.programs: sizes. -/
namespace K18
open PySem PySem.Spec L2
open PyProof.Rows hiding St
def bds : Sm → List (List Sm)
  | .ite _ f s => [f, s]
  | .whl _ _ b => [b]
  | .frl _ b => [b]
  | .tri b l => [b, l]
  | .blk b => [b]
  | _ => []
def cof : Sm → Option Cn
  | .ite c _ _ => some c
  | .whl _ c _ => some c
  | _ => none
def optC : Option Cn → PyData
  | none => .none
  | some c => c.data
def inn : Cn → List Cn
  | .neg c => [c]
  | .chn _ cs => cs
  | _ => []
def bdD (l : List Sm) : PyData := .tuple (Sm.datas l)
/-- a function of a value read as data -/
def spFn {α : Type} (dat res : α → PyData) (ok : α → Prop) : Sp := fun vs H Q _ => ∃ (v : V) (a : α), vs = [v] ∧ TD H v (dat a) ∧ ok a ∧ ∀ H' u, Fr [] H H' → TD H' u (res a) → Q u H'
/-- the first word of a statement's data, the rest -/
def Sm.k : Sm → Str
  | .call _ => "call"
  | .dcl _ _ => "let"
  | .set _ _ => "set"
  | .ite _ _ _ => "if"
  | .whl _ _ _ => "while"
  | .frl _ _ => "for"
  | .jmp w _ => w
  | .ret _ => "return"
  | .tri _ _ => "try"
  | .blk _ => "block"
def Sm.rs : Sm → List PyData
  | .call n => [.str n]
  | .dcl n b => [.str n, .bool b]
  | .set n b => [.str n, .bool b]
  | .ite c f s => [c.data, bdD f, bdD s]
  | .whl l c b => [optS l, c.data, bdD b]
  | .frl l b => [optS l, bdD b]
  | .jmp _ l => [optS l]
  | .ret n => [optI n]
  | .tri b l => [bdD b, bdD l]
  | .blk b => [bdD b]
theorem sm_data (s : Sm) : s.data = .tuple (.str s.k :: s.rs) := by cases s <;> rfl
theorem sm_open {H : Hp} {v : V} {s : Sm} (h : TD H v s.data) : ∃ b xs, v = .ref b ∧ H b = some (.tup (.str s.k :: xs)) ∧ TDs H xs s.rs := by
  rw [sm_data] at h
  obtain ⟨a, xs, rfl, h1, h2⟩ := h.tup_inv
  obtain ⟨x, r, rfl, h3, h4⟩ := h2.cons_inv
  rw [h3.str_inv] at h1
  exact ⟨a, r, rfl, h1, h4⟩
mutual
/-- all conditions satisfy P, all jumps are jumps -/
def AlS (P : Cn → Prop) : Sm → Prop
  | .ite c f s => P c ∧ AlL P f ∧ AlL P s
  | .whl _ c b => P c ∧ AlL P b
  | .frl _ b => AlL P b
  | .tri b l => AlL P b ∧ AlL P l
  | .blk b => AlL P b
  | .jmp w _ => w = "break" ∨ w = "continue"
  | .call _ => True
  | .dcl _ _ => True
  | .set _ _ => True
  | .ret _ => True
def AlL (P : Cn → Prop) : List Sm → Prop
  | [] => True
  | s :: r => AlS P s ∧ AlL P r
end
def fine (s : Sm) : Prop := ∀ w l, s = .jmp w l → w = "break" ∨ w = "continue"
theorem AlS.fine {P : Cn → Prop} {s : Sm} (h : AlS P s) : fine s := by
  rintro w l rfl
  rw [AlS] at h
  exact h
theorem AlS.bds {P : Cn → Prop} {s : Sm} (h : AlS P s) : ∀ b ∈ bds s, AlL P b := by
  cases s <;> simp only [AlS, K18.bds] at h ⊢ <;> simp_all
theorem AlS.cof {P : Cn → Prop} {s : Sm} (h : AlS P s) : ∀ c, cof s = some c → P c := by
  cases s <;> simp only [AlS, K18.cof] at h ⊢ <;> simp_all
section
variable {K : PySem.W.Frag} {H : Hp} {σ : L2.St} {D : Ends} {tA tB : TS} {x y : Str} {xs : List V} {b : Addr}
/-- the first word of the tuple in the first local, compared -/
theorem x_eq (ho : σ[0]? = some (some (.ref b))) (hb : H b = some (.tup (.str y :: xs))) (h1 : y = x → tA D σ H) (h2 : ¬ y = x → tB D σ H) : tIfS (tTest (tOp rEq (tOp (rIxT K) (tVar 0) (tC (.int 0))) (tC (.str x)))) tA tB D σ H := by
  refine ⟨_, ho, b, _, 0, _, rfl, rfl, sqT hb, at0, rfl, _, rfl, ?_⟩
  by_cases c : y = x
  · exact iteTb (str_eqT c) (h1 c)
  · exact iteFb (str_eqF c) (h2 c)
theorem x_eq2 {x' : Str} (ho : σ[0]? = some (some (.ref b))) (hb : H b = some (.tup (.str y :: xs))) (h1 : y = x ∨ y = x' → tA D σ H) (h2 : ¬ (y = x ∨ y = x') → tB D σ H) : tIfS (tOr (tTest (tOp rEq (tOp (rIxT K) (tVar 0) (tC (.int 0))) (tC (.str x)))) (tTest (tOp rEq (tOp (rIxT K) (tVar 0) (tC (.int 0))) (tC (.str x'))))) tA tB D σ H := by
  refine ⟨_, ho, b, _, 0, _, rfl, rfl, sqT hb, at0, rfl, _, rfl, ?_⟩
  by_cases c : y = x
  · exact iteTb (str_eqT c) (iteT (h1 (.inl c)))
  · refine iteFb (str_eqF c) ⟨_, ho, b, _, 0, _, rfl, rfl, sqT hb, at0, rfl, _, rfl, ?_⟩
    by_cases d : y = x'
    · exact iteTb (str_eqT d) (h1 (.inr d))
    · exact iteFb (str_eqF d) (h2 fun z => z.elim c d)
end
def spBds : Sp := spFn Sm.data (fun s => .tuple ((bds s).map bdD)) fine
def spCof : Sp := spFn Sm.data (fun s => optC (cof s)) fine
def spInn : Sp := spFn Cn.data (fun c => .tuple (Cn.datas (inn c))) fun _ => True
abbrev N_bodies_of : List Str := ["statement", "kind"]
theorem sc_bodies_of : FnScope N_bodies_of ["statement"] (defScope s_bodies_of) := ⟨rfl, rfl, rfl, by decide +kernel, rfl, by decide +kernel, by decide +kernel⟩
def t_bodies_of (K : PySem.W.Frag) (E : XK)  : TS :=
  (tSeq (tAsg (tOp (rIxT K) (tVar 0) (tC (.int 0))) (gName 1))
  (tSeq (tIfS (tTest (tOp rEq (tVar 1) (tC (.str "if")))) (tRet (tTup (tCons (tOp (rIxT K) (tVar 0) (tC (.int 2))) (tCons (tOp (rIxT K) (tVar 0) (tC (.int 3))) tNil)))) tNext)
  (tSeq (tIfS (tTest (tOp rEq (tVar 1) (tC (.str "while")))) (tRet (tTup (tCons (tOp (rIxT K) (tVar 0) (tC (.int 3))) tNil))) tNext)
  (tSeq (tIfS (tTest (tOp rEq (tVar 1) (tC (.str "for")))) (tRet (tTup (tCons (tOp (rIxT K) (tVar 0) (tC (.int 2))) tNil))) tNext)
  (tSeq (tIfS (tTest (tOp rEq (tVar 1) (tC (.str "try")))) (tRet (tTup (tCons (tOp (rIxT K) (tVar 0) (tC (.int 1))) (tCons (tOp (rIxT K) (tVar 0) (tC (.int 2))) tNil)))) tNext)
  (tSeq (tIfS (tTest (tOp rEq (tVar 1) (tC (.str "block")))) (tRet (tTup (tCons (tOp (rIxT K) (tVar 0) (tC (.int 1))) tNil))) tNext)
  (tRet (tTup tNil))))))))
abbrev N_condition_of : List Str := ["statement"]
theorem sc_condition_of : FnScope N_condition_of ["statement"] (defScope s_condition_of) := ⟨rfl, rfl, rfl, by decide +kernel, rfl, by decide +kernel, by decide +kernel⟩
def t_condition_of (K : PySem.W.Frag) (E : XK)  : TS :=
  (tSeq (tIfS (tTest (tOp rEq (tOp (rIxT K) (tVar 0) (tC (.int 0))) (tC (.str "if")))) (tRet (tOp (rIxT K) (tVar 0) (tC (.int 1)))) tNext)
  (tSeq (tIfS (tTest (tOp rEq (tOp (rIxT K) (tVar 0) (tC (.int 0))) (tC (.str "while")))) (tRet (tOp (rIxT K) (tVar 0) (tC (.int 2)))) tNext)
  (tRet (tC .non))))
abbrev N_inner_conditions : List Str := ["condition"]
theorem sc_inner_conditions : FnScope N_inner_conditions ["condition"] (defScope s_inner_conditions) := ⟨rfl, rfl, rfl, by decide +kernel, rfl, by decide +kernel, by decide +kernel⟩
def t_inner_conditions (K : PySem.W.Frag) (E : XK)  : TS :=
  (tSeq (tIfS (tTest (tOp rEq (tOp (rIxT K) (tVar 0) (tC (.int 0))) (tC (.str "not")))) (tRet (tTup (tCons (tOp (rIxT K) (tVar 0) (tC (.int 1))) tNil))) tNext)
  (tSeq (tIfS (tOr (tTest (tOp rEq (tOp (rIxT K) (tVar 0) (tC (.int 0))) (tC (.str "and")))) (tTest (tOp rEq (tOp (rIxT K) (tVar 0) (tC (.int 0))) (tC (.str "or"))))) (tRet (tOp (rIxT K) (tVar 0) (tC (.int 1)))) tNext)
  (tRet (tTup tNil))))
section
variable {wd : World} {K : PySem.W.Frag} {mg : Str → Option Value} {base : Heap}
theorem fn_len {α : Type} {dat res : α → PyData} {ok : α → Prop} (vs : List V) (H : Hp) (Q : VK) (E : XK) (h : spFn dat res ok vs H Q E) : vs.length = 1 := by
  obtain ⟨v, a, rfl, _⟩ := h
  rfl
theorem pure_bds (vs : List V) (H : Hp) (Q : VK) (E : XK) (h : spBds vs H Q E) : t_bodies_of K E { nx := fun _ H' => Q .non H', rt := Q } (start N_bodies_of vs) H := by
  obtain ⟨v, s, rfl, hv, hf, q⟩ := h
  replace q : ∀ H' u, Fr [] H H' → TD H' u (.tuple ((bds s).map bdD)) → Q u H' := q
  obtain ⟨b, xs, rfl, hb, hx⟩ := sm_open hv
  refine ⟨_, rfl, b, _, 0, _, rfl, rfl, sqT hb, at0, ?_⟩
  have emp : bds s = [] → 0 ≤ sizeLine ∧ ∀ p, H p = none → Q (.ref p) (upd H p (.tup [])) := fun e => ⟨Nat.zero_le _, fun p hp => q _ _ (Fr.new hp) (by rw [e]; exact .tup upd_same .nil)⟩
  have one : ∀ l u, bds s = [l] → TD H u (bdD l) → 1 ≤ sizeLine ∧ ∀ p, H p = none → Q (.ref p) (upd H p (.tup [u])) := fun l u e hu => ⟨one_le, fun p hp => q _ _ (Fr.new hp) (by rw [e]; exact TD.mk1 upd_same (TD.fr hu (Fr.new (M := []) hp)))⟩
  have two : ∀ l m u z, bds s = [l, m] → TD H u (bdD l) → TD H z (bdD m) → 2 ≤ sizeLine ∧ ∀ p, H p = none → Q (.ref p) (upd H p (.tup [u, z])) := fun l m u z e hu hz => ⟨two_le, fun p hp => q _ _ (Fr.new hp) (by rw [e]; exact TD.mk2 upd_same (TD.fr hu (Fr.new (M := []) hp)) (TD.fr hz (Fr.new (M := []) hp)))⟩
  cases s with
  | call _ =>
    repeat refine v_eq (k := 1) rfl (fun c => absurd c (by dsimp only [Sm.k]; decide +kernel)) fun _ => ?_
    exact emp rfl
  | dcl _ _ =>
    repeat refine v_eq (k := 1) rfl (fun c => absurd c (by dsimp only [Sm.k]; decide +kernel)) fun _ => ?_
    exact emp rfl
  | set _ _ =>
    repeat refine v_eq (k := 1) rfl (fun c => absurd c (by dsimp only [Sm.k]; decide +kernel)) fun _ => ?_
    exact emp rfl
  | ret _ =>
    repeat refine v_eq (k := 1) rfl (fun c => absurd c (by dsimp only [Sm.k]; decide +kernel)) fun _ => ?_
    exact emp rfl
  | jmp w l =>
    have h0 : ∀ x : Str, x ≠ "break" → x ≠ "continue" → ¬ Sm.k (.jmp w l) = x := fun x h1 h2 z => by
      rcases hf w l rfl with e | e
      · exact h1 (z.symm.trans e)
      · exact h2 (z.symm.trans e)
    repeat refine v_eq (k := 1) rfl (fun c => absurd c (h0 _ (by decide +kernel) (by decide +kernel))) fun _ => ?_
    exact emp rfl
  | ite c f s =>
    obtain ⟨u1, r1, rfl, t1, hx⟩ := hx.cons_inv
    obtain ⟨u2, r2, rfl, t2, hx⟩ := hx.cons_inv
    obtain ⟨u3, r3, rfl, t3, hx⟩ := hx.cons_inv
    refine v_eq (k := 1) rfl (fun _ => ?_) fun c => absurd rfl c
    exact ⟨_, rfl, b, _, 2, _, rfl, rfl, sqT hb, at2, _, rfl, b, _, 3, _, rfl, rfl, sqT hb, at3, two f s u2 u3 rfl t2 t3⟩
  | whl l c f =>
    obtain ⟨u1, r1, rfl, t1, hx⟩ := hx.cons_inv
    obtain ⟨u2, r2, rfl, t2, hx⟩ := hx.cons_inv
    obtain ⟨u3, r3, rfl, t3, hx⟩ := hx.cons_inv
    refine v_eq (k := 1) rfl (fun c => absurd c (by dsimp only [Sm.k]; decide +kernel)) fun _ => ?_
    refine v_eq (k := 1) rfl (fun _ => ?_) fun c => absurd rfl c
    exact ⟨_, rfl, b, _, 3, _, rfl, rfl, sqT hb, at3, one f u3 rfl t3⟩
  | frl l f =>
    obtain ⟨u1, r1, rfl, t1, hx⟩ := hx.cons_inv
    obtain ⟨u2, r2, rfl, t2, hx⟩ := hx.cons_inv
    refine v_eq (k := 1) rfl (fun c => absurd c (by dsimp only [Sm.k]; decide +kernel)) fun _ => ?_
    refine v_eq (k := 1) rfl (fun c => absurd c (by dsimp only [Sm.k]; decide +kernel)) fun _ => ?_
    refine v_eq (k := 1) rfl (fun _ => ?_) fun c => absurd rfl c
    exact ⟨_, rfl, b, _, 2, _, rfl, rfl, sqT hb, at2, one f u2 rfl t2⟩
  | tri f s =>
    obtain ⟨u1, r1, rfl, t1, hx⟩ := hx.cons_inv
    obtain ⟨u2, r2, rfl, t2, hx⟩ := hx.cons_inv
    refine v_eq (k := 1) rfl (fun c => absurd c (by dsimp only [Sm.k]; decide +kernel)) fun _ => ?_
    refine v_eq (k := 1) rfl (fun c => absurd c (by dsimp only [Sm.k]; decide +kernel)) fun _ => ?_
    refine v_eq (k := 1) rfl (fun c => absurd c (by dsimp only [Sm.k]; decide +kernel)) fun _ => ?_
    refine v_eq (k := 1) rfl (fun _ => ?_) fun c => absurd rfl c
    exact ⟨_, rfl, b, _, 1, _, rfl, rfl, sqT hb, at1, _, rfl, b, _, 2, _, rfl, rfl, sqT hb, at2, two f s u1 u2 rfl t1 t2⟩
  | blk f =>
    obtain ⟨u1, r1, rfl, t1, hx⟩ := hx.cons_inv
    refine v_eq (k := 1) rfl (fun c => absurd c (by dsimp only [Sm.k]; decide +kernel)) fun _ => ?_
    refine v_eq (k := 1) rfl (fun c => absurd c (by dsimp only [Sm.k]; decide +kernel)) fun _ => ?_
    refine v_eq (k := 1) rfl (fun c => absurd c (by dsimp only [Sm.k]; decide +kernel)) fun _ => ?_
    refine v_eq (k := 1) rfl (fun c => absurd c (by dsimp only [Sm.k]; decide +kernel)) fun _ => ?_
    refine v_eq (k := 1) rfl (fun _ => ?_) fun c => absurd rfl c
    exact ⟨_, rfl, b, _, 1, _, rfl, rfl, sqT hb, at1, one f u1 rfl t1⟩
theorem ok_bds (T : Txt K mg) : CalS R0 wd K mg base 1 "bodies_of" spBds := by
  refine cal_s T.d_bodies_of T.g_bodies_of sc_bodies_of (fun _ _ _ _ _ _ us hl => match us, hl with | [_], _ => rfl) (fun vs H Q E h => fn_len vs H Q E h) (fun cdv A outer s H vs Q E hr h => ⟨t_bodies_of K E, ?_, pure_bds vs H Q E h⟩)
  exact (pss_cons (ps_set (i := 1) sc_bodies_of.nd rfl (Or.inl rfl) (pe_ix ix_tup (pv 0) pe_int (fun _ _ => rfl)))
      (pss_cons (ps_if (pt_cmpR op_eq (pv 1) pe_str (nomark _)) (pss_one (ps_ret (pe_tup (pa_cons (pe_ix ix_tup (pv 0) pe_int (fun _ _ => rfl)) (pa_cons (pe_ix ix_tup (pv 0) pe_int (fun _ _ => rfl)) pa_nil))))) pss_nil)
      (pss_cons (ps_if (pt_cmpR op_eq (pv 1) pe_str (nomark _)) (pss_one (ps_ret (pe_tup (pa_cons (pe_ix ix_tup (pv 0) pe_int (fun _ _ => rfl)) pa_nil)))) pss_nil)
      (pss_cons (ps_if (pt_cmpR op_eq (pv 1) pe_str (nomark _)) (pss_one (ps_ret (pe_tup (pa_cons (pe_ix ix_tup (pv 0) pe_int (fun _ _ => rfl)) pa_nil)))) pss_nil)
      (pss_cons (ps_if (pt_cmpR op_eq (pv 1) pe_str (nomark _)) (pss_one (ps_ret (pe_tup (pa_cons (pe_ix ix_tup (pv 0) pe_int (fun _ _ => rfl)) (pa_cons (pe_ix ix_tup (pv 0) pe_int (fun _ _ => rfl)) pa_nil))))) pss_nil)
      (pss_cons (ps_if (pt_cmpR op_eq (pv 1) pe_str (nomark _)) (pss_one (ps_ret (pe_tup (pa_cons (pe_ix ix_tup (pv 0) pe_int (fun _ _ => rfl)) pa_nil)))) pss_nil)
      (pss_one (ps_ret (pe_tup pa_nil)))))))))
theorem pure_cof (vs : List V) (H : Hp) (Q : VK) (E : XK) (h : spCof vs H Q E) : t_condition_of K E { nx := fun _ H' => Q .non H', rt := Q } (start N_condition_of vs) H := by
  obtain ⟨v, s, rfl, hv, hf, q⟩ := h
  replace q : ∀ H' u, Fr [] H H' → TD H' u (optC (cof s)) → Q u H' := q
  obtain ⟨b, xs, rfl, hb, hx⟩ := sm_open hv
  have emp : cof s = none → ¬ s.k = "if" → ¬ s.k = "while" → t_condition_of K E { nx := fun _ H' => Q .non H', rt := Q } (start N_condition_of [.ref b]) H := fun e h1 h2 => by
    refine x_eq rfl hb (fun c => absurd c h1) fun _ => ?_
    refine x_eq rfl hb (fun c => absurd c h2) fun _ => ?_
    exact q _ _ Fr.refl (by rw [e]; exact .non)
  cases s with
  | ite c f s =>
    obtain ⟨u1, r1, rfl, t1, hx⟩ := hx.cons_inv
    refine x_eq rfl hb (fun _ => ?_) fun c => absurd rfl c
    exact ⟨_, rfl, b, _, 1, _, rfl, rfl, sqT hb, at1, q _ _ Fr.refl t1⟩
  | whl l c f =>
    obtain ⟨u1, r1, rfl, t1, hx⟩ := hx.cons_inv
    obtain ⟨u2, r2, rfl, t2, hx⟩ := hx.cons_inv
    refine x_eq rfl hb (fun c => absurd c (by dsimp only [Sm.k]; decide +kernel)) fun _ => ?_
    refine x_eq rfl hb (fun _ => ?_) fun c => absurd rfl c
    exact ⟨_, rfl, b, _, 2, _, rfl, rfl, sqT hb, at2, q _ _ Fr.refl t2⟩
  | jmp w l =>
    have h0 : ∀ x : Str, x ≠ "break" → x ≠ "continue" → ¬ Sm.k (.jmp w l) = x := fun x h1 h2 z => by
      rcases hf w l rfl with e | e
      · exact h1 (z.symm.trans e)
      · exact h2 (z.symm.trans e)
    exact emp rfl (h0 _ (by decide +kernel) (by decide +kernel)) (h0 _ (by decide +kernel) (by decide +kernel))
  | _ => exact emp rfl (by dsimp only [Sm.k]; decide +kernel) (by dsimp only [Sm.k]; decide +kernel)
theorem ok_cof (T : Txt K mg) : CalS R0 wd K mg base 1 "condition_of" spCof := by
  refine cal_s T.d_condition_of T.g_condition_of sc_condition_of (fun _ _ _ _ _ _ us hl => match us, hl with | [_], _ => rfl) (fun vs H Q E h => fn_len vs H Q E h) (fun cdv A outer s H vs Q E hr h => ⟨t_condition_of K E, ?_, pure_cof vs H Q E h⟩)
  exact (pss_cons (ps_if (pt_cmpR op_eq (pe_ix ix_tup (pv 0) pe_int (fun _ _ => rfl)) pe_str (nomark _)) (pss_one (ps_ret (pe_ix ix_tup (pv 0) pe_int (fun _ _ => rfl)))) pss_nil)
      (pss_cons (ps_if (pt_cmpR op_eq (pe_ix ix_tup (pv 0) pe_int (fun _ _ => rfl)) pe_str (nomark _)) (pss_one (ps_ret (pe_ix ix_tup (pv 0) pe_int (fun _ _ => rfl)))) pss_nil)
      (pss_one (ps_ret pe_non))))
theorem pure_inn (vs : List V) (H : Hp) (Q : VK) (E : XK) (h : spInn vs H Q E) : t_inner_conditions K E { nx := fun _ H' => Q .non H', rt := Q } (start N_inner_conditions vs) H := by
  obtain ⟨v, c, rfl, hv, _, q⟩ := h
  replace q : ∀ H' u, Fr [] H H' → TD H' u (.tuple (Cn.datas (inn c))) → Q u H' := q
  obtain ⟨b, xs, rfl, hb, hx⟩ := cn_open hv
  have emp : inn c = [] → ¬ c.k = "not" → ¬ (c.k = "and" ∨ c.k = "or") → t_inner_conditions K E { nx := fun _ H' => Q .non H', rt := Q } (start N_inner_conditions [.ref b]) H := fun e h1 h2 => by
    refine x_eq rfl hb (fun c => absurd c h1) fun _ => ?_
    refine x_eq2 rfl hb (fun c => absurd c h2) fun _ => ?_
    exact ⟨Nat.zero_le _, fun p hp => q _ _ (Fr.new hp) (by rw [e, Cn.datas]; exact .tup upd_same .nil)⟩
  cases c with
  | call n => exact emp rfl (by dsimp only [Cn.k]; decide +kernel) (by dsimp only [Cn.k]; decide +kernel)
  | flag n => exact emp rfl (by dsimp only [Cn.k]; decide +kernel) (by dsimp only [Cn.k]; decide +kernel)
  | neg c =>
    rw [Cn.data] at hv
    obtain ⟨b', xs', e, hb', hx'⟩ := hv.tup_inv
    cases e
    obtain ⟨u0, r0, rfl, t0, hx'⟩ := hx'.cons_inv
    obtain ⟨u1, r1, rfl, t1, hx'⟩ := hx'.cons_inv
    refine x_eq rfl hb (fun _ => ?_) fun c => absurd rfl c
    exact ⟨_, rfl, b, _, 1, _, rfl, rfl, sqT hb', at1, one_le, fun p hp => q _ _ (Fr.new hp) (by rw [inn, Cn.datas, Cn.datas]; exact TD.mk1 upd_same (TD.fr t1 (Fr.new (M := []) hp)))⟩
  | chn a cs =>
    obtain ⟨t, ys, rfl, ht, hy⟩ := hx a cs rfl
    have n := kW_ne a
    have e2 : kW a = "and" ∨ kW a = "or" := by cases a <;> decide +kernel
    refine x_eq rfl hb (fun c => absurd c.symm n.2.2) fun _ => ?_
    refine x_eq2 rfl hb (fun _ => ?_) fun c => absurd e2 c
    exact ⟨_, rfl, b, _, 1, _, rfl, rfl, sqT hb, at1, q _ _ Fr.refl (.tup ht hy)⟩
theorem ok_inn (T : Txt K mg) : CalS R0 wd K mg base 1 "inner_conditions" spInn := by
  refine cal_s T.d_inner_conditions T.g_inner_conditions sc_inner_conditions (fun _ _ _ _ _ _ us hl => match us, hl with | [_], _ => rfl) (fun vs H Q E h => fn_len vs H Q E h) (fun cdv A outer s H vs Q E hr h => ⟨t_inner_conditions K E, ?_, pure_inn vs H Q E h⟩)
  exact (pss_cons (ps_if (pt_cmpR op_eq (pe_ix ix_tup (pv 0) pe_int (fun _ _ => rfl)) pe_str (nomark _)) (pss_one (ps_ret (pe_tup (pa_cons (pe_ix ix_tup (pv 0) pe_int (fun _ _ => rfl)) pa_nil)))) pss_nil)
      (pss_cons (ps_if (PW.pt (pw_or (pt_cmpR op_eq (pe_ix ix_tup (pv 0) pe_int (fun _ _ => rfl)) pe_str (nomark _)) (pw_or1 (pt_cmpR op_eq (pe_ix ix_tup (pv 0) pe_int (fun _ _ => rfl)) pe_str (nomark _))))) (pss_one (ps_ret (pe_ix ix_tup (pv 0) pe_int (fun _ _ => rfl)))) pss_nil)
      (pss_one (ps_ret (pe_tup pa_nil)))))
end
end K18

/-! P2: flowform.programs: places, depths, is_too_large. -/
namespace K18
open PySem PySem.Spec L2
open PyProof.Rows hiding St
/-! ### depths -/
mutual
def dcn : Cn → Nat
  | .call _ => 0
  | .flag _ => 0
  | .neg c => 1 + dcn c
  | .chn _ cs => dcns cs
def dcns : List Cn → Nat
  | [] => 0
  | c :: r => max (1 + dcn c) (dcns r)
end
mutual
/-- the depth below a statement; that of a body, its own level counted -/
def dpS : Sm → Nat
  | .ite _ f s => max (dB f) (dB s)
  | .whl _ _ b => dB b
  | .frl _ b => dB b
  | .tri b l => max (dB b) (dB l)
  | .blk b => dB b
  | .call _ => 0
  | .dcl _ _ => 0
  | .set _ _ => 0
  | .jmp _ _ => 0
  | .ret _ => 0
def dB : List Sm → Nat
  | [] => 0
  | s :: r => max (1 + dpS s) (dB r)
end
mutual
/-- the greatest depth of a condition's part -/
def dcS : Sm → Nat
  | .ite c f s => max (dcn c) (max (dcs f) (dcs s))
  | .whl _ c b => max (dcn c) (dcs b)
  | .frl _ b => dcs b
  | .tri b l => max (dcs b) (dcs l)
  | .blk b => dcs b
  | .call _ => 0
  | .dcl _ _ => 0
  | .set _ _ => 0
  | .jmp _ _ => 0
  | .ret _ => 0
def dcs : List Sm → Nat
  | [] => 0
  | s :: r => max (dcS s) (dcs r)
end
def mx (l : List Nat) : Nat := l.foldr max 0
theorem mx_snoc (a : List Nat) (x : Nat) : mx (a ++ [x]) = max (mx a) x := by
  induction a with
  | nil => simp [mx]
  | cons y r ih =>
    show max y (mx (r ++ [x])) = max (max y (mx r)) x
    rw [ih]
    omega
theorem mx_le : ∀ {l : List Nat} {x : Nat}, x ∈ l → x ≤ mx l
  | y :: r, x, h => by
    show x ≤ max y (mx r)
    rcases List.mem_cons.mp h with rfl | h
    · omega
    · have := mx_le h
      omega
theorem dcns_mx : ∀ l : List Cn, dcns l = mx (l.map fun c => 1 + dcn c)
  | [] => by simp [dcns, mx]
  | c :: r => by rw [dcns, dcns_mx r]; rfl
theorem dcn_mx (c : Cn) : dcn c = mx ((inn c).map fun c => 1 + dcn c) := by
  cases c with
  | call _ => simp [dcn, inn, mx]
  | flag _ => simp [dcn, inn, mx]
  | neg c => simp [dcn, inn, mx]
  | chn a cs => rw [dcn, dcns_mx]; rfl
theorem nds_sum : ∀ l : List Cn, nds l = (l.map nd).sum
  | [] => by simp [nds]
  | c :: r => by rw [nds, nds_sum r, List.map_cons, List.sum_cons]
theorem nd_sum (c : Cn) : nd c = 1 + ((inn c).map nd).sum := by
  cases c with
  | call _ => simp [nd, inn]
  | flag _ => simp [nd, inn]
  | neg c => simp [nd, inn]; omega
  | chn a cs => rw [nd, nds_sum]; show _ = 1 + (cs.map nd).sum; omega
theorem dB_mx : ∀ l : List Sm, dB l = mx (l.map fun s => 1 + dpS s)
  | [] => by simp [dB, mx]
  | c :: r => by rw [dB, dB_mx r]; rfl
theorem dcs_mx : ∀ l : List Sm, dcs l = mx (l.map dcS)
  | [] => by simp [dcs, mx]
  | c :: r => by rw [dcs, dcs_mx r]; rfl
theorem plcs_sum : ∀ l : List Sm, plcs l = (l.map plc).sum
  | [] => by simp [plcs]
  | c :: r => by rw [plcs, plcs_sum r, List.map_cons, List.sum_cons]
def oN (f : Cn → Nat) : Option Cn → Nat
  | none => 0
  | some c => f c
theorem dpS_mx (s : Sm) : dpS s = mx ((bds s).map dB) := by cases s <;> simp [dpS, bds, mx]
theorem dcS_mx (s : Sm) : dcS s = max (oN dcn (cof s)) (mx ((bds s).map dcs)) := by cases s <;> simp [dcS, bds, cof, oN, mx]
theorem plc_sum (s : Sm) : plc s = 1 + oN nd (cof s) + ((bds s).map plcs).sum := by cases s <;> simp [plc, bds, cof, oN] <;> omega
theorem imax (a b : Nat) : (if (b : Int) > a then (b : Int) else a) = ((max a b : Nat) : Int) := by split <;> omega
theorem TD.int_inv {H : Hp} {v : V} {i : Int} (h : TD H v (.int i)) : v = .int i := by
  cases h
  rfl
theorem TD.non_inv {H : Hp} {v : V} (h : TD H v .none) : v = .non := by
  cases h
  rfl
theorem sum_mem : ∀ {l : List Nat} {x : Nat}, x ∈ l → x ≤ l.sum
  | y :: r, x, h => by
    rw [List.sum_cons]
    rcases List.mem_cons.mp h with rfl | h
    · omega
    · have := sum_mem h
      omega
theorem yesI {σ : L2.St} {H : Hp} {A B : Hp → Prop} (h : A H) : tYes σ H fun b H3 => if b = true then A H3 else B H3 := by
  show if true = true then A H else B H
  rw [if_pos rfl]
  exact h
/-- a condition that is small enough -/
def okC (n : Nat) (c : Cn) : Prop := dcn c ≤ n ∧ nd c ≤ 1000000
theorem okC.part {n : Nat} {c p : Cn} (h : okC n c) (hp : p ∈ inn c) : ∃ m, n = m + 1 ∧ okC m p := by
  have h1 := h.1
  have h2 := h.2
  rw [dcn_mx] at h1
  rw [nd_sum] at h2
  have h3 := mx_le (List.mem_map.mpr ⟨p, hp, rfl⟩ : 1 + dcn p ∈ (inn c).map fun c => 1 + dcn c)
  have h4 := sum_mem (List.mem_map.mpr ⟨p, hp, rfl⟩ : nd p ∈ (inn c).map nd)
  exact ⟨n - 1, by omega, by omega, by omega⟩
theorem okC.len {n : Nat} {c : Cn} (h : okC n c) : (inn c).length ≤ 1000000 := by
  have h2 := h.2
  rw [nd_sum, ← nds_sum] at h2
  have := nds_len (inn c)
  omega
def spPn (n : Nat) : Sp := spFn Cn.data (fun c => .int (nd c)) (okC n)
def spDn (n : Nat) : Sp := spFn Cn.data (fun c => .int (dcn c)) (okC n)
abbrev N_condition_parts : List Str := ["condition", "part"]
theorem sc_condition_parts : FnScope N_condition_parts ["condition"] (defScope s_condition_parts) := ⟨rfl, rfl, rfl, by decide +kernel, rfl, by decide +kernel, by decide +kernel⟩
def t_condition_parts (K : PySem.W.Frag) (E : XK) (spP : Sp) : TS :=
  (tRet (tOp rAddI (tC (.int 1)) (tCB (rSum K) (tCons (tLc (iTup K (tCal spInn E (tCons (tVar 0) tNil))) (gName 1) tYes (tCal spP E0 (tCons (tVar 1) tNil)) [1]) tNil))))
abbrev N_condition_depth : List Str := ["condition", "deepest", "part"]
theorem sc_condition_depth : FnScope N_condition_depth ["condition"] (defScope s_condition_depth) := ⟨rfl, rfl, rfl, by decide +kernel, rfl, by decide +kernel, by decide +kernel⟩
def t_condition_depth (K : PySem.W.Frag) (E : XK) (spD : Sp) : TS :=
  (tSeq (tAsg (tC (.int 0)) (gName 1))
  (tSeq (tFor (iTup K (tCal spInn E (tCons (tVar 0) tNil))) (gName 2) (tAsg (tCB rMax2I (tCons (tVar 1) (tCons (tOp rAddI (tC (.int 1)) (tCal spD E (tCons (tVar 2) tNil))) tNil))) (gName 1)))
  (tRet (tVar 1))))
section
variable {wd : World} {K : PySem.W.Frag} {mg : Str → Option Value} {base : Heap}
theorem cal_no {x qual : Str} {params : Arguments} {body : List Stmt} {scope : Scope} {ps : List Str} {f : Addr} (hF : ∃ fd, FunD K x qual params body scope [] [] f fd) (hg : mg x = some (.ref f))
    (hb : ∀ (kV doc pm : Value) (an : Option Addr) (cdv ct : Value) (us : List Value), us.length = ps.length → bindArgs (PySem.W.fnOf x qual params body scope .none kV doc pm an cdv ct) ⟨us, []⟩ = pure (ps.zip us)) (k : Nat) : CalS R0 wd K mg base k x spNo := by
  obtain ⟨fd, F⟩ := hF
  exact ⟨f, fd, ps, ⟨fun _ _ _ _ h => h.elim, fun _ _ _ _ _ _ _ _ _ _ _ _ _ h => h.elim⟩, hg, F.kp, bnd hb F⟩
theorem CalS.up {k j : Nat} {m : Str} {sp : Sp} (G : CalS R0 wd K mg base k m sp) (h : k ≤ j) : CalS R0 wd K mg base j m sp := by
  obtain ⟨f, fd, ps, F, a⟩ := G.ex
  exact ⟨f, fd, ps, ⟨F.len, fun A outer s H args us vs Q E hr => F.run A outer s H args us vs Q E (hr.mono h)⟩, a⟩
theorem pure_parts {n : Nat} {spP : Sp} (hS : ∀ m, n = m + 1 → spP = spPn m) (vs : List V) (H : Hp) (Q : VK) (E : XK) (h : spPn n vs H Q E) : t_condition_parts K E spP { nx := fun _ H' => Q .non H', rt := Q } (start N_condition_parts vs) H := by
  obtain ⟨v, c, rfl, hv, hc, q⟩ := h
  replace q : ∀ H' u, Fr [] H H' → TD H' u (.int (nd c)) → Q u H' := q
  refine ⟨_, rfl, v, c, rfl, hv, trivial, fun H1 u f1 hu => ?_⟩
  obtain ⟨t, zs, rfl, ht, hz⟩ := TD.tup_inv hu
  have zl : zs.length = (inn c).length := by rw [hz.length, Cn.datas_map, List.length_map]
  refine ⟨t, rfl, ⟨zs, sqT ht⟩, fun D hD => lc_tup (xs := zs) (fun i H' => Fr [] H1 H' ∧ H' D = some (.lst (((inn c).take i).map fun c => V.int (nd c)))) ⟨Fr.new hD, upd_same⟩ (fun i H' _ p => sqT (p.1.tup _ _ ht)) ?_ ?_⟩
  · rintro i x H' hi ⟨fr, hl⟩
    obtain ⟨d, e1, hx⟩ := hz.get hi
    rw [Cn.datas_map, List.getElem?_map] at e1
    obtain ⟨p, ep, rfl⟩ := Option.map_eq_some_iff.mp e1
    obtain ⟨m, em, op⟩ := hc.part (List.mem_of_getElem? ep)
    refine ⟨rfl, yesI ?_⟩
    rw [hS m em]
    refine ⟨_, rfl, x, p, rfl, hx.fr fr, op, fun H2 u f2 hu => ⟨_, f2.oth _ _ hl (by simp), ?_, ?_⟩⟩
    · have := hc.len
      rw [List.length_map, List.length_take]
      exact Nat.lt_of_le_of_lt (Nat.le_trans (Nat.min_le_right _ _) this) (by decide)
    · have hu' : u = .int (nd p) := TD.int_inv hu
      subst hu'
      refine ⟨(fr.trans f2).out hD, ?_⟩
      rw [upd_same, List.take_add_one, ep, List.map_append]
      rfl
  · rintro H' ⟨fr, hl⟩
    rw [zl, List.take_length] at hl
    refine ⟨D, (inn c).map fun c => (nd c : Int), rfl, sqL (by rw [hl, List.map_map]; rfl), ?_⟩
    have e : 1 + ((inn c).map fun c => (nd c : Int)).sum = (nd c : Int) := by
      have e2 : ((inn c).map fun c => (nd c : Int)).sum = (((inn c).map nd).sum : Nat) := by
        generalize inn c = l
        induction l with
        | nil => rfl
        | cons a r ih => rw [List.map_cons, List.sum_cons, List.map_cons, List.sum_cons, ih]; omega
      rw [e2]
      have := nd_sum c
      omega
    refine ⟨_, _, rfl, rfl, ?_⟩
    show Q (.int (1 + ((inn c).map fun c => (nd c : Int)).sum)) H'
    rw [e]
    exact q _ _ (f1.trans fr) (.int _)
theorem ok_parts (T : Txt K mg) : ∀ n, CalS R0 wd K mg base (n + 2) "condition_parts" (spPn n) := by
  intro n
  have main : ∀ (n k : Nat) (spP : Sp), (∀ m, n = m + 1 → spP = spPn m) → 1 ≤ k → CalS R0 wd K mg base k "condition_parts" spP → CalS R0 wd K mg base (k + 1) "condition_parts" (spPn n) := by
    intro n k spP hS hk GP
    refine cal_s T.d_condition_parts T.g_condition_parts sc_condition_parts (fun _ _ _ _ _ _ us hl => match us, hl with | [_], _ => rfl) (fun vs H Q E h => fn_len vs H Q E h) (fun cdv A outer s H vs Q E hr h => ⟨t_condition_parts K E spP, ?_, pure_parts hS vs H Q E h⟩)
    exact (pss_one (ps_ret (pe_op op_add pe_int (pe_callB (cr_sum rfl) rfl T.f_sum (by decide +kernel) (pa_cons (pe_lc (own := [("part", 1)]) (g := gName 1) (tt := tYes) rfl sc_condition_parts.nd (pi_tup (pc (ok_inn T) hr (by omega) passE rfl (pa_cons (pv 0) pa_nil))) (blkOk_by (N := N_condition_parts) (sc := defScope s_condition_parts) (by decide +kernel)) (fun _ _ _ _ _ => pg_name (i := 1) sc_condition_parts.nd rfl (Or.inl rfl)) (fun _ _ _ _ _ => pts_nil) (fun _ _ _ _ _ => (pc GP hr (by omega) passL rfl (pa_cons (pv 1) pa_nil)))) pa_nil)))))
  induction n with
  | zero => exact main 0 1 spNo (fun _ z => by cases z) (Nat.le_refl _) (cal_no (ps := ["condition"]) T.d_condition_parts T.g_condition_parts (fun _ _ _ _ _ _ us hl => match us, hl with | [_], _ => rfl) _)
  | succ n ih => exact main (n + 1) (n + 2) _ (fun m z => by cases z; rfl) (by omega) ih
theorem pure_cdepth {n : Nat} {spD : Sp} (hS : ∀ m, n = m + 1 → spD = spDn m) (vs : List V) (H : Hp) (Q : VK) (E : XK) (h : spDn n vs H Q E) : t_condition_depth K E spD { nx := fun _ H' => Q .non H', rt := Q } (start N_condition_depth vs) H := by
  obtain ⟨v, c, rfl, hv, hc, q⟩ := h
  replace q : ∀ H' u, Fr [] H H' → TD H' u (.int (dcn c)) → Q u H' := q
  refine ⟨_, rfl, v, c, rfl, hv, trivial, fun H1 u f1 hu => ?_⟩
  obtain ⟨t, zs, rfl, ht, hz⟩ := TD.tup_inv hu
  have zl : zs.length = (inn c).length := by rw [hz.length, Cn.datas_map, List.length_map]
  refine ⟨t, rfl, ⟨zs, sqT ht⟩, for_tup (xs := zs) (fun i σ H' => ∃ pv, σ = [some v, some (.int (mx (((inn c).take i).map fun c => 1 + dcn c) : Nat)), pv] ∧ Fr [] H1 H') ⟨none, rfl, Fr.refl⟩ (fun i σ H' _ ⟨_, _, fr⟩ => sqT (fr.tup _ _ ht)) ?_ ?_⟩
  · rintro i x σ H' hi ⟨pv, rfl, fr⟩
    obtain ⟨d, e1, hx⟩ := hz.get hi
    rw [Cn.datas_map, List.getElem?_map] at e1
    obtain ⟨p, ep, rfl⟩ := Option.map_eq_some_iff.mp e1
    obtain ⟨m, em, op⟩ := hc.part (List.mem_of_getElem? ep)
    rw [hS m em]
    refine ⟨_, rfl, _, rfl, x, p, rfl, hx.fr fr, op, fun H2 u f2 hu => ?_⟩
    have hu' : u = .int (dcn p) := TD.int_inv hu
    subst hu'
    refine ⟨_, _, rfl, rfl, _, _, rfl, some x, ?_, fr.trans f2⟩
    have e3 : (1 : Int) + (dcn p : Int) = ((1 + dcn p : Nat) : Int) := by omega
    rw [e3, imax, List.take_add_one, ep, List.map_append]
    show _ = [some v, some (V.int (mx (_ ++ [1 + dcn p]) : Nat)), some x]
    rw [mx_snoc]
    rfl
  · rintro σ H' ⟨pv, rfl, fr⟩
    refine ⟨_, rfl, ?_⟩
    rw [zl, List.take_length, ← dcn_mx]
    exact q _ _ (f1.trans fr) (.int _)
theorem ok_cdepth (T : Txt K mg) : ∀ n, CalS R0 wd K mg base (n + 2) "condition_depth" (spDn n) := by
  intro n
  have main : ∀ (n k : Nat) (spD : Sp), (∀ m, n = m + 1 → spD = spDn m) → 1 ≤ k → CalS R0 wd K mg base k "condition_depth" spD → CalS R0 wd K mg base (k + 1) "condition_depth" (spDn n) := by
    intro n k spD hS hk GD
    refine cal_s T.d_condition_depth T.g_condition_depth sc_condition_depth (fun _ _ _ _ _ _ us hl => match us, hl with | [_], _ => rfl) (fun vs H Q E h => fn_len vs H Q E h) (fun cdv A outer s H vs Q E hr h => ⟨t_condition_depth K E spD, ?_, pure_cdepth hS vs H Q E h⟩)
    exact (pss_cons (ps_set (i := 1) sc_condition_depth.nd rfl (Or.inl rfl) pe_int)
      (pss_cons (ps_for ownE rfl (pi_tup (pc (ok_inn T) hr (by omega) passE rfl (pa_cons (pv 0) pa_nil))) (pg_name (i := 2) sc_condition_depth.nd rfl (Or.inl rfl)) (pss_one (ps_set (i := 1) sc_condition_depth.nd rfl (Or.inl rfl) (pe_callB (call_max2 rfl) rfl T.f_max (by decide +kernel) (pa_cons (pv 1) (pa_cons (pe_op op_add pe_int (pc GD hr (by omega) passE rfl (pa_cons (pv 2) pa_nil))) pa_nil))))))
      (pss_one (ps_ret (pv 1)))))
  induction n with
  | zero => exact main 0 1 spNo (fun _ z => by cases z) (Nat.le_refl _) (cal_no (ps := ["condition"]) T.d_condition_depth T.g_condition_depth (fun _ _ _ _ _ _ us hl => match us, hl with | [_], _ => rfl) _)
  | succ n ih => exact main (n + 1) (n + 2) _ (fun m z => by cases z; rfl) (by omega) ih
end
end K18

/-! P3: flowform.programs: places, depths, is_too_large. -/
namespace K18
open PySem PySem.Spec L2
open PyProof.Rows hiding St
theorem AlL.mem {P : Cn → Prop} : ∀ {l : List Sm} {s : Sm}, AlL P l → s ∈ l → AlS P s
  | y :: r, s, h, m => by
    rw [AlL] at h
    rcases List.mem_cons.mp m with rfl | m
    · exact h.1
    · exact AlL.mem h.2 m
def okL (n : Nat) (l : List Sm) : Prop := AlL (okC 20) l ∧ dB l ≤ n
theorem okL.part {n : Nat} {l : List Sm} {s : Sm} {b : List Sm} (h : okL n l) (hs : s ∈ l) (hb : b ∈ bds s) : ∃ m, n = m + 1 ∧ okL m b := by
  have h2 := h.2
  rw [dB_mx] at h2
  have h3 := mx_le (List.mem_map.mpr ⟨s, hs, rfl⟩ : 1 + dpS s ∈ l.map fun s => 1 + dpS s)
  have h4 := dpS_mx s
  have h5 := mx_le (List.mem_map.mpr ⟨b, hb, rfl⟩ : dB b ∈ (bds s).map dB)
  exact ⟨n - 1, by omega, (h.1.mem hs).bds b hb, by omega⟩
theorem bd_get {H : Hp} {xs : List V} {f : List Sm → PyData} {bs : List (List Sm)} (h : TDs H xs (bs.map f)) {i : Nat} {x : V} (hi : xs[i]? = some x) : ∃ b, bs[i]? = some b ∧ TD H x (f b) := by
  obtain ⟨d, e1, hx⟩ := h.get hi
  rw [List.getElem?_map] at e1
  obtain ⟨p, ep, rfl⟩ := Option.map_eq_some_iff.mp e1
  exact ⟨p, ep, hx⟩
theorem sm_get {H : Hp} {xs : List V} {bs : List Sm} (h : TDs H xs (Sm.datas bs)) {i : Nat} {x : V} (hi : xs[i]? = some x) : ∃ b, bs[i]? = some b ∧ TD H x b.data := by
  obtain ⟨d, e1, hx⟩ := h.get hi
  rw [Sm.datas_map, List.getElem?_map] at e1
  obtain ⟨p, ep, rfl⟩ := Option.map_eq_some_iff.mp e1
  exact ⟨p, ep, hx⟩
def spLn (n : Nat) : Sp := spFn bdD (fun l => .int (plcs l)) (okL n)
def spEn (n : Nat) : Sp := spFn bdD (fun l => .tuple [.int (dB l - 1 : Nat), .int (dcs l)]) (okL n)
theorem cn_ref {H : Hp} {v : V} {c : Cn} (h : TD H v c.data) : ∃ b, v = .ref b := by
  obtain ⟨b, _, e, _⟩ := cn_open h
  exact ⟨b, e⟩
abbrev N_places : List Str := ["program", "total", "statement", "condition", "body"]
theorem sc_places : FnScope N_places ["program"] (defScope s_places) := ⟨rfl, rfl, rfl, by decide +kernel, rfl, by decide +kernel, by decide +kernel⟩
def t_places (K : PySem.W.Frag) (E : XK) (spL : Sp) : TS :=
  (tSeq (tAsg (tC (.int 0)) (gName 1))
  (tSeq (tFor (iTup K (tVar 0)) (gName 2) (tSeq (tAug 1 (tC (.int 1)) (ipI fun i j => i + j))
  (tSeq (tAsg (tCal spCof E (tCons (tVar 2) tNil)) (gName 3))
  (tSeq (tIfS (tTest (tOp rNotN (tVar 3) (tC .non))) (tAug 1 (tCal (spPn 20) E (tCons (tVar 3) tNil)) (ipI fun i j => i + j)) tNext)
  (tFor (iTup K (tCal spBds E (tCons (tVar 2) tNil))) (gName 4) (tAug 1 (tCal spL E (tCons (tVar 4) tNil)) (ipI fun i j => i + j)))))))
  (tRet (tVar 1))))
abbrev N_depths : List Str := ["program", "deepest", "deepest_part", "statement", "condition", "body", "inner"]
theorem sc_depths : FnScope N_depths ["program"] (defScope s_depths) := ⟨rfl, rfl, rfl, by decide +kernel, rfl, by decide +kernel, by decide +kernel⟩
def t_depths (K : PySem.W.Frag) (E : XK) (spE : Sp) : TS :=
  (tSeq (tAsg (tC (.int 0)) (gName 1))
  (tSeq (tAsg (tC (.int 0)) (gName 2))
  (tSeq (tFor (iTup K (tVar 0)) (gName 3) (tSeq (tAsg (tCal spCof E (tCons (tVar 3) tNil)) (gName 4))
  (tSeq (tIfS (tTest (tOp rNotN (tVar 4) (tC .non))) (tAsg (tCB rMax2I (tCons (tVar 2) (tCons (tCal (spDn 20) E (tCons (tVar 4) tNil)) tNil))) (gName 2)) tNext)
  (tFor (iTup K (tCal spBds E (tCons (tVar 3) tNil))) (gName 5) (tIfS (tTest (tOp rGtI (tCB (rLenQ K) (tCons (tVar 5) tNil)) (tC (.int 0)))) (tSeq (tAsg (tCal spE E (tCons (tVar 5) tNil)) (gName 6))
  (tSeq (tAsg (tCB rMax2I (tCons (tVar 1) (tCons (tOp rAddI (tC (.int 1)) (tOp (rIxT K) (tVar 6) (tC (.int 0)))) tNil))) (gName 1))
  (tAsg (tCB rMax2I (tCons (tVar 2) (tCons (tOp (rIxT K) (tVar 6) (tC (.int 1))) tNil))) (gName 2)))) tNext)))))
  (tRet (tTup (tCons (tVar 1) (tCons (tVar 2) tNil)))))))
section
variable {wd : World} {K : PySem.W.Frag} {mg : Str → Option Value} {base : Heap}
theorem loop_places {n : Nat} {spL : Sp} (hS : ∀ m, n = m + 1 → spL = spLn m) {E : XK} {D : Ends} {H : Hp} {x : V} {s : Sm} {a0 p3 p4 : Option V} {tot : Nat} (hx : TD H x s.data) (hf : fine s) (hb : ∀ b ∈ bds s, ∃ m, n = m + 1 ∧ okL m b)
    (q : ∀ H' p, Fr [] H H' → D.nx [a0, some (.int (tot + ((bds s).map plcs).sum : Nat)), some x, p3, p] H') :
    tFor (iTup K (tCal spBds E (tCons (tVar 2) tNil))) (gName 4) (tAug 1 (tCal spL E (tCons (tVar 4) tNil)) (ipI fun i j => i + j)) D [a0, some (.int (tot : Nat)), some x, p3, p4] H := by
  refine ⟨_, rfl, x, s, rfl, hx, hf, fun H1 u f1 hu => ?_⟩
  obtain ⟨t, zs, rfl, ht, hz⟩ := TD.tup_inv hu
  have zl : zs.length = (bds s).length := by rw [hz.length, List.length_map]
  refine ⟨t, rfl, ⟨zs, sqT ht⟩, for_tup (xs := zs) (fun i σ H' => ∃ p, σ = [a0, some (.int (tot + (((bds s).take i).map plcs).sum : Nat)), some x, p3, p] ∧ Fr [] H1 H') ⟨p4, rfl, Fr.refl⟩ (fun i σ H' _ ⟨_, _, fr⟩ => sqT (fr.tup _ _ ht)) ?_ ?_⟩
  · rintro i y σ H' hi ⟨p, rfl, fr⟩
    obtain ⟨b, eb, hy⟩ := bd_get hz hi
    obtain ⟨m, em, ob⟩ := hb b (List.mem_of_getElem? eb)
    rw [hS m em]
    refine ⟨_, rfl, _, rfl, y, b, rfl, hy.fr fr, ob, fun H2 u f2 hu => ?_⟩
    obtain rfl : u = .int (plcs b) := TD.int_inv hu
    refine ⟨_, _, rfl, rfl, some y, ?_, fr.trans f2⟩
    have e3 : ((tot + (((bds s).take i).map plcs).sum : Nat) : Int) + (plcs b : Int) = ((tot + (((bds s).take (i + 1)).map plcs).sum : Nat) : Int) := by
      rw [List.take_add_one, eb, List.map_append, List.sum_append]
      simp only [Option.toList_some, List.map_cons, List.map_nil, List.sum_cons, List.sum_nil]
      omega
    show [a0, some (V.int (((tot + (((bds s).take i).map plcs).sum : Nat) : Int) + (plcs b : Int))), some x, p3, some y] = _
    rw [e3]
  · rintro σ H' ⟨p, rfl, fr⟩
    rw [zl, List.take_length]
    exact q _ _ (f1.trans fr)
theorem pure_places {n : Nat} {spL : Sp} (hS : ∀ m, n = m + 1 → spL = spLn m) (vs : List V) (H : Hp) (Q : VK) (E : XK) (h : spLn n vs H Q E) : t_places K E spL { nx := fun _ H' => Q .non H', rt := Q } (start N_places vs) H := by
  obtain ⟨v, l, rfl, hv, hc, q⟩ := h
  replace q : ∀ H' u, Fr [] H H' → TD H' u (.int (plcs l)) → Q u H' := q
  obtain ⟨t, zs, rfl, ht, hz⟩ := TD.tup_inv hv
  have zl : zs.length = l.length := by rw [hz.length, Sm.datas_map, List.length_map]
  refine ⟨_, rfl, t, rfl, ⟨zs, sqT ht⟩, for_tup (xs := zs) (fun i σ H' => ∃ p2 p3 p4, σ = [some (.ref t), some (.int (plcs (l.take i) : Nat)), p2, p3, p4] ∧ Fr [] H H') ⟨none, none, none, rfl, Fr.refl⟩ (fun i σ H' _ ⟨_, _, _, _, fr⟩ => sqT (fr.tup _ _ ht)) ?_ ?_⟩
  · rintro i x σ H' hi ⟨p2, p3, p4, rfl, fr⟩
    obtain ⟨s, es, hx⟩ := sm_get hz hi
    have hx := hx.fr fr
    have ms := List.mem_of_getElem? es
    have al := hc.1.mem ms
    have et : plcs (l.take (i + 1)) = plcs (l.take i) + 1 + oN nd (cof s) + ((bds s).map plcs).sum := by
      rw [List.take_add_one, es, plcs_append]
      have := plc_sum s
      simp only [Option.toList_some, plcs]
      omega
    refine ⟨_, rfl, _, _, rfl, rfl, ?_⟩
    refine ⟨_, rfl, x, s, rfl, hx, al.fine, fun H1 u f1 hu => ?_⟩
    refine ⟨_, rfl, rfl, _, rfl, ?_⟩
    cases hco : cof s with
    | none =>
      have hu' : TD H1 u (optC (cof s)) := hu
      rw [hco] at hu' et
      obtain rfl : u = .non := TD.non_inv hu'
      refine iteFb rfl ?_
      refine loop_places hS (tot := plcs (l.take i) + 1) (hx.fr f1) al.fine (fun b hb => hc.part ms hb) fun H2 p f2 => ⟨some x, some .non, p, ?_, (fr.trans f1).trans f2⟩
      rw [et]
      rfl
    | some c =>
      have hu' : TD H1 u (optC (cof s)) := hu
      rw [hco] at hu' et
      obtain ⟨b, rfl⟩ := cn_ref hu'
      refine iteTb rfl ?_
      refine ⟨_, rfl, _, rfl, _, c, rfl, hu', al.cof c hco, fun H2 u f2 hu => ?_⟩
      obtain rfl : u = .int (nd c) := TD.int_inv hu
      refine ⟨_, _, rfl, rfl, ?_⟩
      refine loop_places hS (tot := plcs (l.take i) + 1 + nd c) ((hx.fr f1).fr f2) al.fine (fun b hb => hc.part ms hb) fun H3 p f3 => ⟨some x, some (.ref b), p, ?_, ((fr.trans f1).trans f2).trans f3⟩
      rw [et]
      rfl
  · rintro σ H' ⟨p2, p3, p4, rfl, fr⟩
    refine ⟨_, rfl, ?_⟩
    rw [zl, List.take_length]
    exact q _ _ fr (.int _)
theorem ok_places (T : Txt K mg) : ∀ n, CalS R0 wd K mg base (n + 24) "places" (spLn n) := by
  intro n
  have main : ∀ (n k : Nat) (spL : Sp), (∀ m, n = m + 1 → spL = spLn m) → 22 ≤ k → CalS R0 wd K mg base k "places" spL → CalS R0 wd K mg base (k + 1) "places" (spLn n) := by
    intro n k spL hS hk GL
    refine cal_s T.d_places T.g_places sc_places (fun _ _ _ _ _ _ us hl => match us, hl with | [_], _ => rfl) (fun vs H Q E h => fn_len vs H Q E h) (fun cdv A outer s H vs Q E hr h => ⟨t_places K E spL, ?_, pure_places hS vs H Q E h⟩)
    exact (pss_cons (ps_set (i := 1) sc_places.nd rfl (Or.inl rfl) pe_int)
      (pss_cons (ps_for ownE rfl (pi_tup (pv 0)) (pg_name (i := 2) sc_places.nd rfl (Or.inl rfl)) (pss_cons (ps_aug (i := 1) sc_places.nd rfl (Or.inl rfl) pe_int ip_add)
      (pss_cons (ps_set (i := 3) sc_places.nd rfl (Or.inl rfl) (pc (ok_cof T) hr (by omega) passE rfl (pa_cons (pv 2) pa_nil)))
      (pss_cons (ps_if (pt_cmpR op_notN (pv 3) pe_non (nomark _)) (pss_one (ps_aug (i := 1) sc_places.nd rfl (Or.inl rfl) (pc (ok_parts T 20) hr (by omega) passE rfl (pa_cons (pv 3) pa_nil)) ip_add)) pss_nil)
      (pss_one (ps_for ownE rfl (pi_tup (pc (ok_bds T) hr (by omega) passE rfl (pa_cons (pv 2) pa_nil))) (pg_name (i := 4) sc_places.nd rfl (Or.inl rfl)) (pss_one (ps_aug (i := 1) sc_places.nd rfl (Or.inl rfl) (pc GL hr (by omega) passE rfl (pa_cons (pv 4) pa_nil)) ip_add))))))))
      (pss_one (ps_ret (pv 1)))))
  induction n with
  | zero => exact main 0 23 spNo (fun _ z => by cases z) (by omega) (cal_no (ps := ["program"]) T.d_places T.g_places (fun _ _ _ _ _ _ us hl => match us, hl with | [_], _ => rfl) _)
  | succ n ih => exact main (n + 1) (n + 24) _ (fun m z => by cases z; rfl) (by omega) ih
theorem loop_depths {n : Nat} {spE : Sp} (hS : ∀ m, n = m + 1 → spE = spEn m) {E : XK} {D : Ends} {H : Hp} {x : V} {s : Sm} {a0 p4 p5 p6 : Option V} {t1 t2 : Nat} (hx : TD H x s.data) (hf : fine s) (hb : ∀ b ∈ bds s, ∃ m, n = m + 1 ∧ okL m b)
    (q : ∀ H' p p', Fr [] H H' → D.nx [a0, some (.int (max t1 (mx ((bds s).map dB)) : Nat)), some (.int (max t2 (mx ((bds s).map dcs)) : Nat)), some x, p4, p, p'] H') :
    tFor (iTup K (tCal spBds E (tCons (tVar 3) tNil))) (gName 5) (tIfS (tTest (tOp rGtI (tCB (rLenQ K) (tCons (tVar 5) tNil)) (tC (.int 0)))) (tSeq (tAsg (tCal spE E (tCons (tVar 5) tNil)) (gName 6))
      (tSeq (tAsg (tCB rMax2I (tCons (tVar 1) (tCons (tOp rAddI (tC (.int 1)) (tOp (rIxT K) (tVar 6) (tC (.int 0)))) tNil))) (gName 1))
      (tAsg (tCB rMax2I (tCons (tVar 2) (tCons (tOp (rIxT K) (tVar 6) (tC (.int 1))) tNil))) (gName 2)))) tNext) D [a0, some (.int (t1 : Nat)), some (.int (t2 : Nat)), some x, p4, p5, p6] H := by
  refine ⟨_, rfl, x, s, rfl, hx, hf, fun H1 u f1 hu => ?_⟩
  obtain ⟨t, zs, rfl, ht, hz⟩ := TD.tup_inv hu
  have zl : zs.length = (bds s).length := by rw [hz.length, List.length_map]
  refine ⟨t, rfl, ⟨zs, sqT ht⟩, for_tup (xs := zs) (fun i σ H' => ∃ p p', σ = [a0, some (.int (max t1 (mx (((bds s).take i).map dB)) : Nat)), some (.int (max t2 (mx (((bds s).take i).map dcs)) : Nat)), some x, p4, p, p'] ∧ Fr [] H1 H') ⟨p5, p6, ?_, Fr.refl⟩ (fun i σ H' _ ⟨_, _, _, fr⟩ => sqT (fr.tup _ _ ht)) ?_ ?_⟩
  · rw [List.take_zero, List.map_nil, List.map_nil]
    show _ = [a0, some (V.int (max t1 0 : Nat)), some (V.int (max t2 0 : Nat)), some x, p4, p5, p6]
    rw [Nat.max_zero, Nat.max_zero]
  · rintro i y σ H' hi ⟨p, p', rfl, fr⟩
    obtain ⟨b, eb, hy⟩ := bd_get hz hi
    obtain ⟨m, em, ob⟩ := hb b (List.mem_of_getElem? eb)
    have hy := hy.fr fr
    obtain ⟨c, ys, rfl, hc, hys⟩ := TD.tup_inv hy
    have yl : ys.length = b.length := by rw [hys.length, Sm.datas_map, List.length_map]
    have ex1 : mx (((bds s).take (i + 1)).map dB) = max (mx (((bds s).take i).map dB)) (dB b) := by
      rw [List.take_add_one, eb, List.map_append]
      exact mx_snoc _ _
    have ex2 : mx (((bds s).take (i + 1)).map dcs) = max (mx (((bds s).take i).map dcs)) (dcs b) := by
      rw [List.take_add_one, eb, List.map_append]
      exact mx_snoc _ _
    refine ⟨_, rfl, c, ys, rfl, .inr (sqT hc), _, _, rfl, rfl, _, rfl, ?_⟩
    by_cases hl : b = []
    · subst hl
      refine iteFb (decide_eq_false (by rw [yl]; decide)) ⟨some (.ref c), p', ?_, fr⟩
      rw [ex1, ex2, dB, dcs, Nat.max_zero, Nat.max_zero]
      rfl
    · refine iteTb (decide_eq_true (by rw [yl]; have := List.length_pos_iff.mpr hl; omega)) ?_
      rw [hS m em]
      refine ⟨_, rfl, _, b, rfl, hy, ob, fun H2 u f2 hu => ?_⟩
      obtain ⟨e, es, rfl, he, hes⟩ := TD.tup_inv hu
      obtain ⟨v1, r1, rfl, h1, hes⟩ := hes.cons_inv
      obtain ⟨v2, r2, rfl, h2, hes⟩ := hes.cons_inv
      obtain rfl : v1 = .int (dB b - 1 : Nat) := TD.int_inv h1
      obtain rfl : v2 = .int (dcs b) := TD.int_inv h2
      refine ⟨_, rfl, _, rfl, e, _, 0, _, rfl, rfl, sqT he, at0, _, _, rfl, rfl, _, _, rfl, ?_⟩
      refine ⟨_, rfl, _, rfl, e, _, 1, _, rfl, rfl, sqT he, at1, _, _, rfl, some (.ref c), some (.ref e), ?_, fr.trans f2⟩
      have hd : 1 ≤ dB b := by
        cases b with
        | nil => exact absurd rfl hl
        | cons a r => rw [dB]; omega
      have e3 : (1 : Int) + ((dB b - 1 : Nat) : Int) = ((dB b : Nat) : Int) := by omega
      rw [e3, imax, imax, ex1, ex2, Nat.max_assoc, Nat.max_assoc]
      rfl
  · rintro σ H' ⟨p, p', rfl, fr⟩
    rw [zl, List.take_length]
    exact q _ _ _ (f1.trans fr)
theorem pure_depths {n : Nat} {spE : Sp} (hS : ∀ m, n = m + 1 → spE = spEn m) (vs : List V) (H : Hp) (Q : VK) (E : XK) (h : spEn n vs H Q E) : t_depths K E spE { nx := fun _ H' => Q .non H', rt := Q } (start N_depths vs) H := by
  obtain ⟨v, l, rfl, hv, hc, q⟩ := h
  replace q : ∀ H' u, Fr [] H H' → TD H' u (.tuple [.int (dB l - 1 : Nat), .int (dcs l)]) → Q u H' := q
  obtain ⟨t, zs, rfl, ht, hz⟩ := TD.tup_inv hv
  have zl : zs.length = l.length := by rw [hz.length, Sm.datas_map, List.length_map]
  refine ⟨_, rfl, t, rfl, ⟨zs, sqT ht⟩, for_tup (xs := zs) (fun i σ H' => ∃ p3 p4 p5 p6, σ = [some (.ref t), some (.int (dB (l.take i) - 1 : Nat)), some (.int (dcs (l.take i) : Nat)), p3, p4, p5, p6] ∧ Fr [] H H') ⟨none, none, none, none, rfl, Fr.refl⟩ (fun i σ H' _ ⟨_, _, _, _, _, fr⟩ => sqT (fr.tup _ _ ht)) ?_ ?_⟩
  · rintro i x σ H' hi ⟨p3, p4, p5, p6, rfl, fr⟩
    obtain ⟨s, es, hx⟩ := sm_get hz hi
    have hx := hx.fr fr
    have ms := List.mem_of_getElem? es
    have al := hc.1.mem ms
    have e1 : dB (l.take (i + 1)) - 1 = max (dB (l.take i) - 1) (mx ((bds s).map dB)) := by
      rw [List.take_add_one, es, dB_mx, List.map_append]
      show mx (_ ++ [1 + dpS s]) - 1 = _
      rw [mx_snoc, ← dB_mx, ← dpS_mx]
      omega
    have e2 : dcs (l.take (i + 1)) = max (max (dcs (l.take i)) (oN dcn (cof s))) (mx ((bds s).map dcs)) := by
      rw [List.take_add_one, es, dcs_mx, List.map_append]
      show mx (_ ++ [dcS s]) = _
      rw [mx_snoc, ← dcs_mx, dcS_mx, Nat.max_assoc]
    refine ⟨_, rfl, x, s, rfl, hx, al.fine, fun H1 u f1 hu => ?_⟩
    refine ⟨_, rfl, rfl, _, rfl, ?_⟩
    cases hco : cof s with
    | none =>
      have hu' : TD H1 u (optC (cof s)) := hu
      rw [hco] at hu' e2
      obtain rfl : u = .non := TD.non_inv hu'
      refine iteFb rfl ?_
      refine loop_depths hS (hx.fr f1) al.fine (fun b hb => hc.part ms hb) fun H2 p p' f2 => ⟨some x, some .non, p, p', ?_, (fr.trans f1).trans f2⟩
      rw [e1, e2]
      show _ = [_, _, some (V.int (max (max (dcs (l.take i)) 0) _ : Nat)), _, _, _, _]
      rw [Nat.max_zero]
    | some c =>
      have hu' : TD H1 u (optC (cof s)) := hu
      rw [hco] at hu' e2
      obtain ⟨b, rfl⟩ := cn_ref hu'
      refine iteTb rfl ?_
      refine ⟨_, rfl, _, rfl, _, c, rfl, hu', al.cof c hco, fun H2 u f2 hu => ?_⟩
      obtain rfl : u = .int (dcn c) := TD.int_inv hu
      refine ⟨_, _, rfl, ?_⟩
      rw [imax]
      refine loop_depths hS ((hx.fr f1).fr f2) al.fine (fun b hb => hc.part ms hb) fun H3 p p' f3 => ⟨some x, some (.ref b), p, p', ?_, ((fr.trans f1).trans f2).trans f3⟩
      rw [e1, e2]
      rfl
  · rintro σ H' ⟨p3, p4, p5, p6, rfl, fr⟩
    refine ⟨_, rfl, _, rfl, two_le, fun p hp => ?_⟩
    rw [zl, List.take_length]
    exact q _ _ (fr.trans (Fr.new hp)) (TD.mk2 upd_same (.int _) (.int _))
theorem ok_depths (T : Txt K mg) : ∀ n, CalS R0 wd K mg base (n + 24) "depths" (spEn n) := by
  intro n
  have main : ∀ (n k : Nat) (spE : Sp), (∀ m, n = m + 1 → spE = spEn m) → 22 ≤ k → CalS R0 wd K mg base k "depths" spE → CalS R0 wd K mg base (k + 1) "depths" (spEn n) := by
    intro n k spE hS hk GE
    refine cal_s T.d_depths T.g_depths sc_depths (fun _ _ _ _ _ _ us hl => match us, hl with | [_], _ => rfl) (fun vs H Q E h => fn_len vs H Q E h) (fun cdv A outer s H vs Q E hr h => ⟨t_depths K E spE, ?_, pure_depths hS vs H Q E h⟩)
    exact (pss_cons (ps_set (i := 1) sc_depths.nd rfl (Or.inl rfl) pe_int)
      (pss_cons (ps_set (i := 2) sc_depths.nd rfl (Or.inl rfl) pe_int)
      (pss_cons (ps_for ownE rfl (pi_tup (pv 0)) (pg_name (i := 3) sc_depths.nd rfl (Or.inl rfl)) (pss_cons (ps_set (i := 4) sc_depths.nd rfl (Or.inl rfl) (pc (ok_cof T) hr (by omega) passE rfl (pa_cons (pv 3) pa_nil)))
      (pss_cons (ps_if (pt_cmpR op_notN (pv 4) pe_non (nomark _)) (pss_one (ps_set (i := 2) sc_depths.nd rfl (Or.inl rfl) (pe_callB (call_max2 rfl) rfl T.f_max (by decide +kernel) (pa_cons (pv 2) (pa_cons (pc (ok_cdepth T 20) hr (by omega) passE rfl (pa_cons (pv 4) pa_nil)) pa_nil))))) pss_nil)
      (pss_one (ps_for ownE rfl (pi_tup (pc (ok_bds T) hr (by omega) passE rfl (pa_cons (pv 3) pa_nil))) (pg_name (i := 5) sc_depths.nd rfl (Or.inl rfl)) (pss_one (ps_if (pt_cmpR op_gt (pe_callB call_len_seq rfl T.f_len (by decide +kernel) (pa_cons (pv 5) pa_nil)) pe_int (nomark _)) (pss_cons (ps_set (i := 6) sc_depths.nd rfl (Or.inl rfl) (pc GE hr (by omega) passE rfl (pa_cons (pv 5) pa_nil)))
      (pss_cons (ps_set (i := 1) sc_depths.nd rfl (Or.inl rfl) (pe_callB (call_max2 rfl) rfl T.f_max (by decide +kernel) (pa_cons (pv 1) (pa_cons (pe_op op_add pe_int (pe_ix ix_tup (pv 6) pe_int (fun _ _ => rfl))) pa_nil))))
      (pss_one (ps_set (i := 2) sc_depths.nd rfl (Or.inl rfl) (pe_callB (call_max2 rfl) rfl T.f_max (by decide +kernel) (pa_cons (pv 2) (pa_cons (pe_ix ix_tup (pv 6) pe_int (fun _ _ => rfl)) pa_nil))))))) pss_nil)))))))
      (pss_one (ps_ret (pe_tup (pa_cons (pv 1) (pa_cons (pv 2) pa_nil))))))))
  induction n with
  | zero => exact main 0 23 spNo (fun _ z => by cases z) (by omega) (cal_no (ps := ["program"]) T.d_depths T.g_depths (fun _ _ _ _ _ _ us hl => match us, hl with | [_], _ => rfl) _)
  | succ n ih => exact main (n + 1) (n + 24) _ (fun m z => by cases z; rfl) (by omega) ih
end
/-- nothing too large is asked -/
def fits (l : List Sm) : Prop := okL 41 l ∧ plcs l ≤ 200 ∧ dcs l ≤ 20
def spBig : Sp := spFn bdD (fun _ => .bool false) fits
abbrev N_is_too_large : List Str := ["program", "deepest", "deepest_part"]
theorem sc_is_too_large : FnScope N_is_too_large ["program"] (defScope s_is_too_large) := ⟨rfl, rfl, rfl, by decide +kernel, rfl, by decide +kernel, by decide +kernel⟩
def t_is_too_large (K : PySem.W.Frag) (E : XK)  : TS :=
  (tSeq (tAsg (tCal (spEn 41) E (tCons (tVar 0) tNil)) (gTup K 2 (gCons (gName 1) (gCons (gName 2) gNil))))
  (tRet (tOrV (tOp rGtI (tCal (spLn 41) E (tCons (tVar 0) tNil)) (tC (.int 200))) (tOrV (tOp rGtI (tVar 1) (tC (.int 40))) (tOp rGtI (tVar 2) (tC (.int 20)))))))
section
variable {wd : World} {K : PySem.W.Frag} {mg : Str → Option Value} {base : Heap}
theorem pure_big (vs : List V) (H : Hp) (Q : VK) (E : XK) (h : spBig vs H Q E) : t_is_too_large K E { nx := fun _ H' => Q .non H', rt := Q } (start N_is_too_large vs) H := by
  obtain ⟨v, l, rfl, hv, hc, q⟩ := h
  replace q : ∀ H' u, Fr [] H H' → TD H' u (.bool false) → Q u H' := q
  have hd := hc.1.2
  have hp := hc.2.1
  have hq := hc.2.2
  refine ⟨_, rfl, v, l, rfl, hv, hc.1, fun H1 u f1 hu => ?_⟩
  obtain ⟨e, es, rfl, he, hes⟩ := TD.tup_inv hu
  obtain ⟨v1, r1, rfl, h1, hes1⟩ := hes.cons_inv
  obtain ⟨v2, r2, rfl, h2, hes2⟩ := hes1.cons_inv
  obtain rfl : v1 = .int (dB l - 1 : Nat) := TD.int_inv h1
  obtain rfl : v2 = .int (dcs l) := TD.int_inv h2
  have er := hes2.nil_inv
  subst er
  refine ⟨e, _, rfl, sqT he, rfl, _, _, rfl, _, _, rfl, rfl, ?_⟩
  refine ⟨_, rfl, v, l, rfl, hv.fr f1, hc.1, fun H2 u f2 hu => ?_⟩
  obtain rfl : u = .int (plcs l) := TD.int_inv hu
  refine ⟨_, _, rfl, rfl, _, rfl, iteFb (decide_eq_false (by omega)) ?_⟩
  refine ⟨_, rfl, _, _, rfl, rfl, _, rfl, iteFb (decide_eq_false (by omega)) ?_⟩
  refine ⟨_, rfl, _, _, rfl, rfl, ?_⟩
  have e0 : decide ((20 : Int) < (dcs l : Int)) = false := decide_eq_false (by omega)
  show Q (.bl (decide ((20 : Int) < (dcs l : Int)))) H2
  rw [e0]
  exact q _ _ (f1.trans f2) (.bl _)
theorem ok_big (T : Txt K mg) : CalS R0 wd K mg base 66 "is_too_large" spBig := by
  refine cal_s T.d_is_too_large T.g_is_too_large sc_is_too_large (fun _ _ _ _ _ _ us hl => match us, hl with | [_], _ => rfl) (fun vs H Q E h => fn_len vs H Q E h) (fun cdv A outer s H vs Q E hr h => ⟨t_is_too_large K E, ?_, pure_big vs H Q E h⟩)
  exact (pss_cons (ps_asg (pc (ok_depths T 41) hr (by omega) passE rfl (pa_cons (pv 0) pa_nil)) (pg_tup rfl (pgs_cons (pg_name (i := 1) sc_is_too_large.nd rfl (Or.inl rfl)) (pgs_cons (pg_name (i := 2) sc_is_too_large.nd rfl (Or.inl rfl)) pgs_nil))))
      (pss_one (ps_ret (pe_or (pe_cmpR op_gt (pc (ok_places T 41) hr (by omega) passE rfl (pa_cons (pv 0) pa_nil)) (pe_gc rfl T.i_MOST_PLACES) (nomark _)) (pe_or (pe_cmpR op_gt (pv 1) (pe_gc rfl T.i_DEEPEST_STATEMENT) (nomark _)) (pe_one (pe_cmpR op_gt (pv 2) (pe_gc rfl T.i_DEEPEST_CONDITION) (nomark _))))))))
end
end K18

/-! A8: flowform.reader: Reader(text), read_program. -/
namespace K18
open PySem PySem.Spec L2
open PyProof.Rows hiding St
/-- a text that is laid out as the words are -/
def Txs (w : Rw) (z : Str) : Prop := Lay 0 (cd z) w.ws w.ps ∧ z.length = w.n ∧ w.n ≤ 1000000
def spInit (K : PySem.W.Frag) (w : Rw) : Sp := fun vs H Q _ => ∃ (x dx : Addr) (z : Str), vs = [.ref x, .str z] ∧ H x = some (.ins (aR K) dx []) ∧ Txs w z ∧ ∀ H', Fr [x] H H' → RS K w x H' 0 → Q .non H'
abbrev N_R_init : List Str := ["self", "text"]
theorem sc_R_init : FnScope N_R_init ["self", "text"] (defScope s_R_init) := ⟨rfl, rfl, rfl, by decide +kernel, rfl, by decide +kernel, by decide +kernel⟩
def t_R_init (K : PySem.W.Frag) (E : XK)  : TS :=
  (tSeq (sFld K (tVar 0) (tCal spTokens E (tCons (tVar 1) tNil)) "row")
  (tSeq (sFld K (tVar 0) (tC (.int 0)) "at")
  (sFld K (tVar 0) (tCB rLenT (tCons (tVar 1) tNil)) "end")))
section
variable {wd : World} {K : PySem.W.Frag} {mg : Str → Option Value} {base : Heap} {w : Rw}
theorem pure_init (T : Txt K mg) (vs : List V) (H : Hp) (Q : VK) (E : XK) (h : spInit K w vs H Q E) : t_R_init K E { nx := fun _ H' => Q .non H', rt := Q } (start N_R_init vs) H := by
  obtain ⟨x, dx, z, rfl, hx, ⟨hL, hn, hz⟩, q⟩ := h
  refine ⟨_, rfl, z, w.ws, w.ps, rfl, hL, by omega, fun H1 t us f1 ht hu => ?_⟩
  have hx1 := f1.oth _ _ hx (by simp)
  refine ⟨_, rfl, x, _, dx, _, rfl, hx1, T.cR, T.n_row, (show 0 < 1000 by decide), ?_⟩
  have f2 : Fr [x] H1 (upd H1 x (.ins (aR K) dx [("row", V.ref t)])) := Fr.putI hx1 (List.mem_singleton.mpr rfl)
  refine ⟨_, rfl, x, _, dx, _, rfl, upd_same, T.cR, T.n_at, (show 1 < 1000 by decide), ?_⟩
  have f3 : Fr [x] (upd H1 x (.ins (aR K) dx [("row", V.ref t)])) (upd (upd H1 x (.ins (aR K) dx [("row", V.ref t)])) x (.ins (aR K) dx [("row", V.ref t), ("at", V.int 0)])) := Fr.putI upd_same (List.mem_singleton.mpr rfl)
  refine ⟨_, rfl, z, rfl, mil (by omega), _, rfl, x, _, dx, _, rfl, upd_same, T.cR, T.n_end, (show 2 < 1000 by decide), ?_⟩
  have f4 : Fr [x] (upd (upd H1 x (.ins (aR K) dx [("row", V.ref t)])) x (.ins (aR K) dx [("row", V.ref t), ("at", V.int 0)])) (upd (upd (upd H1 x (.ins (aR K) dx [("row", V.ref t)])) x (.ins (aR K) dx [("row", V.ref t), ("at", V.int 0)])) x (.ins (aR K) dx [("row", V.ref t), ("at", V.int 0), ("end", V.int (z.length : Int))])) := Fr.putI upd_same (List.mem_singleton.mpr rfl)
  have g := (f2.trans f3).trans f4
  refine q _ ((f1.mono (by simp)).trans g) ⟨dx, t, us, ?_, g.tup _ _ ht, hu.fr g⟩
  rw [← hn]
  exact upd_same
theorem ok_init (T : Txt K mg) : ∃ fd, FnOk R0 wd K mg base (L2.CX R0 wd) 4 (He.ma K (He.ga K "Reader") "__init__") fd ["self", "text"] (spInit K w) ∧ Binds K fd ["self", "text"] [] := by
  obtain ⟨fd, F⟩ := T.d_R_init
  refine ⟨fd, F.ok sc_R_init (fun vs H Q E h => ?_) (fun cdv A outer s H vs Q E hr h => ⟨t_R_init K E, ?_, pure_init T vs H Q E h⟩), bnd (fun _ _ _ _ _ _ us hl => match us, hl with | [_, _], _ => rfl) F⟩
  · obtain ⟨x, dx, z, rfl, _⟩ := h
    rfl
  · exact (pss_cons (ps_fld (pv 0) (pcO rfl (ok_tokens T) hr (by omega) passE rfl (pa_cons (pv 1) pa_nil)) rfl)
      (pss_cons (ps_fld (pv 0) pe_int rfl)
      (pss_one (ps_fld (pv 0) (pe_callB call_len_str rfl T.f_len (by decide +kernel) (pa_cons (pv 1) pa_nil)) rfl))))
end
section
variable {X : Cx} {E : XK} {p pos : Pos} {e : Expr} {t : TA} {w : Rw}
theorem pe_newR (T : Txt X.K X.mg) (hP : X.prog = R0) (hg : Gl X "Reader") (hr : Room 10 X.A) (hx : Passes (L2.CX X.prog X.w) X E) (ha : PA X [e] t)
    (he : starEach [e] X.env = (false, eval e X.env) :: starEach [] X.env := by rfl) (hpl : (backTo pos (starEach [] X.env)).any (·.1) = false := by rfl) :
    PE X (.Call (.Name "Reader" p) [e] [] pos) (tMake (aR X.K) (spInit X.K w) [] E t) := by
  obtain ⟨fd, F, b⟩ := ok_init (wd := X.w) (base := X.base) (w := w) T
  rw [← hP] at F
  exact pe_make T.mR F (hr.mono (by omega)) hg T.g_Reader b .nil hx ha (by decide) he hpl
end
/-- what a text read gives -/
def told (K : PySem.W.Frag) (w : Rw) (H : Hp) (Q : VK) (E : XK) : Prop := match prg w.ws with
  | .ok l _ => ∀ H' v, Fr [] H H' → TD H' v (bdD l) → Q v H'
  | .no k s => ∀ H' d, Fr [] H H' → H' d = some (.xd (teF (.int (w.pl k : Int)) (.str s))) → E (.ref (aT K)) (some d) H'
def spRead (K : PySem.W.Frag) (w : Rw) : Sp := fun vs H Q E => ∃ z : Str, vs = [.str z] ∧ Txs w z ∧ (∀ l j, prg w.ws = .ok l j → fits l) ∧ told K w H Q E
theorem Fr.drop {x : Addr} {H H0 H' : Hp} (f : Fr [] H H0) (g : Fr [x] H0 H') (hx : H x = none) : Fr [] H H' :=
  ⟨fun a xs e => g.tup _ _ (f.tup _ _ e), fun a o e _ => g.oth _ _ (f.oth _ _ e (by simp)) (by
    intro z
    rw [List.mem_singleton.mp z, hx] at e
    cases e)⟩
abbrev N_read_program : List Str := ["text", "program"]
theorem sc_read_program : FnScope N_read_program ["text"] (defScope s_read_program) := ⟨rfl, rfl, rfl, by decide +kernel, rfl, by decide +kernel, by decide +kernel⟩
def t_read_program (K : PySem.W.Frag) (E : XK) (w : Rw) : TS :=
  (tSeq (tAsg (tMet (He.ga K "Reader") "contents" (spCts K w 0 (item w.ws (stm w.ws) 41)) E (tMake (aR K) (spInit K w) [] E (tCons (tVar 0) tNil)) (tCons (tC (.int 0)) (tCons (tC (.str "")) tNil))) (gName 1))
  (tSeq (tIfS (tB (tCal spBig E (tCons (tVar 1) tNil))) tNever tNext)
  (tRet (tVar 1))))
section
variable {wd : World} {K : PySem.W.Frag} {mg : Str → Option Value} {base : Heap} {w : Rw}
theorem pure_read (T : Txt K mg) (vs : List V) (H : Hp) (Q : VK) (E : XK) (h : spRead K w vs H Q E) : t_read_program K E w { nx := fun _ H' => Q .non H', rt := Q } (start N_read_program vs) H := by
  obtain ⟨z, rfl, hz, hf, q⟩ := h
  refine ⟨_, rfl, fun x dx hx hdx hne => ⟨x, dx, z, rfl, upd_same, hz, fun H1 f1 rs => ⟨rfl, ?_⟩⟩⟩
  have f0 : Fr [] H (upd (upd H dx (.own x)) x (.ins (aR K) dx [])) := (Fr.new hdx).trans (Fr.new (by rw [upd_ne (Ne.symm hne)]; exact hx))
  have f01 := Fr.drop f0 f1 hx
  obtain ⟨dx', t', us', e1, e2, e3⟩ := id rs
  refine ⟨x, dx', _, rfl, e1, rfl, x, 0, "", rfl, rs, Nat.zero_le _, ?_⟩
  unfold told prg at q
  unfold prg at hf
  generalize cts w.ws (item w.ws (stm w.ws) 41) "" (w.ws.length + 1) 0 [] = A at q hf
  cases A with
  | no k s => exact fun H' d fr hd => q H' d (Fr.drop f01 fr hx) hd
  | ok l j =>
    intro H2 v f2 rs2 hv
    have ff := hf l j rfl
    refine ⟨_, rfl, v, l, rfl, hv, ff, fun H3 u f3 hu => ?_⟩
    have eu : u = .bl false := by
      cases hu
      rfl
    subst eu
    refine ⟨_, rfl, iteF ?_⟩
    exact ⟨_, rfl, q _ _ ((Fr.drop f01 f2 hx).trans f3) (TD.fr hv f3)⟩
theorem ok_read (T : Txt K mg) : CalS R0 wd K mg base 314 "read_program" (spRead K w) := by
  obtain ⟨spS, hS, GS⟩ := ok_stm (wd := wd) (base := base) (w := w) T 41 0 rfl
  have GC := ok_cts T (d := 0) (R := 41) (s := stm w.ws) rfl (fun _ _ => stm_pays w.ws 41) hS GS (by omega)
  refine cal_s T.d_read_program T.g_read_program sc_read_program (fun _ _ _ _ _ _ us hl => match us, hl with | [_], _ => rfl) (fun vs H Q E h => ?_) (fun cdv A outer s H vs Q E hr h => ⟨t_read_program K E w, ?_, pure_read T vs H Q E h⟩)
  · obtain ⟨z, rfl, _⟩ := h
    rfl
  · exact (pss_cons (ps_set (i := 1) sc_read_program.nd rfl (Or.inl rfl) (pm GC hr (by omega) passE (pe_newR T rfl rfl hr.room passE (pa_cons (pv 0) pa_nil)) (pa_cons pe_int (pa_cons pe_str pa_nil))))
      (pss_cons (ps_if (pt_val (pc (ok_big T) hr (by omega) passE rfl (pa_cons (pv 1) pa_nil))) (pss_one ps_never) pss_nil)
      (pss_one (ps_ret (pv 1)))))
end
end K18

/-! L1: the law's reader: small steps -/
namespace K18
open PySem PySem.Spec L2
open PyProof.Rows hiding St
/-! ### the state of the law's reader: a list of units, a list of the place and the error -/
def LE (w : Rw) (H : Hp) (ev : V) (er : Option (Nat × Str)) : Prop := match er with
  | none => ev = .non
  | some e => ∃ t, ev = .ref t ∧ H t = some (.tup [.int (w.pl e.1 : Int), .str e.2])
def LS (w : Rw) (u a : Addr) (H : Hp) (i : Nat) (er : Option (Nat × Str)) : Prop := ∃ us te ev, H u = some (.lst (us ++ [V.ref te])) ∧ Us H us w.ws w.ps ∧ H te = some (.tup [.str "end", .str "", .int (w.n : Int)]) ∧ H a = some (.lst [.int (i : Int), ev]) ∧ LE w H ev er ∧ i ≤ w.ws.length ∧ u ≠ a
def kdE (w : Rw) (i : Nat) : Str := if i < w.ws.length then kd (cd (tk w.ws i)) else "end"
section
variable {w : Rw} {u a : Addr} {H H1 : Hp} {i j : Nat} {er er' : Option (Nat × Str)} {K : PySem.W.Frag} {σ : L2.St} {Q : VK} {D : Ends}
theorem LE.fr {M : List Addr} {ev : V} (h : LE w H ev er) (f : Fr M H H1) : LE w H1 ev er := by
  cases er with
  | none => exact h
  | some e =>
    obtain ⟨t, h1, h2⟩ := h
    exact ⟨t, h1, f.tup _ _ h2⟩
theorem LS.fr {M : List Addr} (h : LS w u a H i er) (f : Fr M H H1) (hu : u ∉ M) (ha : a ∉ M) : LS w u a H1 i er := by
  obtain ⟨us, te, ev, h1, h2, h3, h4, h5, h6, h7⟩ := h
  exact ⟨us, te, ev, f.oth _ _ h1 hu, h2.fr f, f.tup _ _ h3, f.oth _ _ h4 ha, h5.fr f, h6, h7⟩
theorem LS.fr0 (h : LS w u a H i er) (f : Fr [] H H1) : LS w u a H1 i er := h.fr f (by simp) (by simp)
theorem LS.ne (h : LS w u a H i er) {p : Addr} (hp : H p = none) : p ≠ u ∧ p ≠ a := by
  obtain ⟨us, te, ev, h1, _, _, h4, _⟩ := h
  exact ⟨fun z => (by rw [z, h1] at hp; cases hp), fun z => (by rw [z, h4] at hp; cases hp)⟩
theorem LS.le (h : LS w u a H i er) : i ≤ w.ws.length := by
  obtain ⟨_, _, _, _, _, _, _, _, h, _⟩ := h
  exact h
/-- the place moves -/
theorem LS.put (h : LS w u a H i er) (hj : j ≤ w.ws.length) : ∃ us : List V, H a = some (.lst us) ∧ ixN us.length 0 = some 0 ∧ Fr [a] H (upd H a (.lst (us.set 0 (.int (j : Int))))) ∧ LS w u a (upd H a (.lst (us.set 0 (.int (j : Int))))) j er := by
  obtain ⟨us, te, ev, h1, h2, h3, h4, h5, h6, h7⟩ := h
  have f : Fr [a] H (upd H a (.lst ([.int (i : Int), ev].set 0 (.int (j : Int))))) := Fr.put h4 (List.mem_singleton.mpr rfl)
  exact ⟨_, h4, rfl, f, us, te, ev, f.oth _ _ h1 (by simpa using h7), h2.fr f, f.tup _ _ h3, upd_same, h5.fr f, hj, h7⟩
theorem u_at (ho : σ[1]? = some (some (.ref a))) (h : LS w u a H i er) (q : Q (.int (i : Int)) H) : tOp (rIxL K) (tVar 1) (tC (.int 0)) σ H Q := by
  obtain ⟨us, te, ev, h1, h2, h3, h4, h5, h6, h7⟩ := h
  exact ⟨_, ho, a, _, 0, _, rfl, rfl, sqL h4, at0, q⟩
theorem isN_at {P : Bool → Hp → Prop} (ho : σ[1]? = some (some (.ref a))) (h : LS w u a H i er) (q : P er.isNone H) : tTest (tOp rIsN (tOp (rIxL K) (tVar 1) (tC (.int 1))) (tC .non)) σ H P := by
  obtain ⟨us, te, ev, h1, h2, h3, h4, h5, h6, h7⟩ := h
  refine ⟨_, ho, a, _, 1, ev, rfl, rfl, sqL h4, at1, rfl, _, rfl, ?_⟩
  cases er with
  | none =>
    have e : ev = .non := h5
    subst e
    exact q
  | some e =>
    obtain ⟨t, rfl, _⟩ := h5
    exact q
theorem notN_at {P : Bool → Hp → Prop} (ho : σ[1]? = some (some (.ref a))) (h : LS w u a H i er) (q : P er.isSome H) : tTest (tOp rNotN (tOp (rIxL K) (tVar 1) (tC (.int 1))) (tC .non)) σ H P := by
  obtain ⟨us, te, ev, h1, h2, h3, h4, h5, h6, h7⟩ := h
  refine ⟨_, ho, a, _, 1, ev, rfl, rfl, sqL h4, at1, rfl, _, rfl, ?_⟩
  cases er with
  | none =>
    have e : ev = .non := h5
    subst e
    exact q
  | some e =>
    obtain ⟨t, rfl, _⟩ := h5
    exact q
theorem unit_at (h : LS w u a H i er) : ∃ us t, H u = some (.lst us) ∧ us[i]? = some (.ref t) ∧ us.length = w.ws.length + 1 ∧ H t = some (.tup [.str (kdE w i), .str (tk w.ws i), .int (w.pl i : Int)]) := by
  obtain ⟨us, te, ev, h1, h2, h3, h4, h5, h6, h7⟩ := h
  have hl := h2.len
  have el : (us ++ [V.ref te]).length = w.ws.length + 1 := by
    rw [List.length_append, List.length_singleton]
    omega
  by_cases c : i < w.ws.length
  · obtain ⟨t, p, e1, e2, e3⟩ := h2.get (tk_get c)
    refine ⟨_, t, h1, ?_, el, ?_⟩
    · rw [List.getElem?_append_left (by omega)]
      exact e1
    · have ep : w.pl i = p := by
        unfold Rw.pl
        rw [List.getD_eq_getElem?_getD, e2]
        rfl
      rw [kdE, if_pos c, ep]
      exact e3
  · have ei : i = us.length := by omega
    refine ⟨_, te, h1, ?_, el, ?_⟩
    · rw [List.getElem?_append_right (by omega), ei, Nat.sub_self]
      rfl
    · have ep : w.pl i = w.n := by
        unfold Rw.pl
        rw [List.getD_eq_getElem?_getD, List.getElem?_eq_none (by have := w.len; omega)]
        rfl
      rw [kdE, if_neg c, tk_end c, ep]
      exact h3
theorem k_at (h0 : σ[0]? = some (some (.ref u))) (h1 : σ[1]? = some (some (.ref a))) (h : LS w u a H i er) (q : ∀ t, H t = some (.tup [.str (kdE w i), .str (tk w.ws i), .int (w.pl i : Int)]) → Q (.ref t) H) :
    tOp (rIxL K) (tVar 0) (tOp (rIxL K) (tVar 1) (tC (.int 0))) σ H Q := by
  obtain ⟨us, t, e1, e2, _, e3⟩ := unit_at h
  exact ⟨_, h0, u_at h1 h ⟨u, us, _, _, rfl, rfl, sqL e1, atI_nat e2, q t e3⟩⟩
theorem w_at (h0 : σ[0]? = some (some (.ref u))) (h1 : σ[1]? = some (some (.ref a))) (h : LS w u a H i er) (q : Q (.str (tk w.ws i)) H) :
    tOp (rIxT K) (tOp (rIxL K) (tVar 0) (tOp (rIxL K) (tVar 1) (tC (.int 0)))) (tC (.int 1)) σ H Q :=
  k_at h0 h1 h fun t ht => ⟨t, _, 1, _, rfl, rfl, sqT ht, at1, q⟩
theorem w0_at (h0 : σ[0]? = some (some (.ref u))) (h1 : σ[1]? = some (some (.ref a))) (h : LS w u a H i er) (q : Q (.str (kdE w i)) H) :
    tOp (rIxT K) (tOp (rIxL K) (tVar 0) (tOp (rIxL K) (tVar 1) (tC (.int 0)))) (tC (.int 0)) σ H Q :=
  k_at h0 h1 h fun t ht => ⟨t, _, 0, _, rfl, rfl, sqT ht, at0, q⟩
theorem w2_at (h0 : σ[0]? = some (some (.ref u))) (h1 : σ[1]? = some (some (.ref a))) (h : LS w u a H i er) (q : Q (.int (w.pl i : Int)) H) :
    tOp (rIxT K) (tOp (rIxL K) (tVar 0) (tOp (rIxL K) (tVar 1) (tC (.int 0)))) (tC (.int 2)) σ H Q :=
  k_at h0 h1 h fun t ht => ⟨t, _, 2, _, rfl, rfl, sqT ht, at2, q⟩
theorem inc_at (h1 : σ[1]? = some (some (.ref a))) (h : LS w u a H i er) (hi : i < w.ws.length) (q : ∀ H', Fr [a] H H' → LS w u a H' (i + 1) er → D.nx σ H') :
    tAsg (tOp rAddI (tOp (rIxL K) (tVar 1) (tC (.int 0))) (tC (.int 1))) (gSub (tVar 1) (tC (.int 0)) rSetL) D σ H := by
  obtain ⟨us, e1, e2, e3, e4⟩ := h.put (j := i + 1) hi
  refine u_at h1 h ⟨_, _, rfl, rfl, _, h1, a, us, 0, 0, rfl, rfl, e1, e2, ?_⟩
  show D.nx σ (upd H a (.lst (us.set 0 (.int ((i : Int) + 1)))))
  rw [int_nat]
  exact q _ e3 e4
end
/-! ### results -/
def lf {α : Type} (er : Option (Nat × Str)) (R : Rs α) : Rs α := match er with
  | none => R
  | some e => .no e.1 e.2
def posL {α : Type} (w : Rw) (u a : Addr) (rep : Hp → V → α → Prop) (any : Hp → V → Prop) (H : Hp) (R : Rs α) (Q : VK) : Prop := match R with
  | .ok x j => ∀ H' v, Fr [a] H H' → LS w u a H' j none → rep H' v x → Q v H'
  | .no k s => ∀ H' v j, Fr [a] H H' → LS w u a H' j (some (k, s)) → any H' v → Q v H'
def aY : Hp → V → Prop := fun _ _ => True
section
variable {w : Rw} {u a : Addr} {H H1 : Hp} {i j : Nat} {er er' : Option (Nat × Str)} {K : PySem.W.Frag} {σ : L2.St} {Q Q1 : VK} {D : Ends} {α β : Type} {rep : Hp → V → α → Prop} {any : Hp → V → Prop}
theorem posL.step {R : Rs α} (h : posL w u a rep any H R Q) (f : Fr [a] H H1) : posL w u a rep any H1 R Q := by
  cases R with
  | ok x j => exact fun H' v fr => h H' v (f.trans fr)
  | no k s => exact fun H' v j fr => h H' v j (f.trans fr)
theorem posL.bind [Inhabited β] {repB : Hp → V → β → Prop} {anyB : Hp → V → Prop} {A : Rs β} {f : β → Nat → Rs α} (h : posL w u a rep any H (lf er (A.bind f)) Q) (ha : ∀ H v x, repB H v x → anyB H v)
    (k : ∀ x j er' H' v, Fr [a] H H' → LS w u a H' j er' → (er' = none → er = none ∧ A = .ok x j ∧ repB H' v x) → anyB H' v → posL w u a rep any H' (lf er' (f x j)) Q → Q1 v H') : posL w u a repB anyB H (lf er A) Q1 := by
  cases er with
  | none =>
    cases A with
    | ok x j => exact fun H' v fr ls rp => k x j none H' v fr ls (fun _ => ⟨rfl, rfl, rp⟩) (ha _ _ _ rp) (posL.step (R := f x j) h fr)
    | no kk s => exact fun H' v j fr ls an => k default j (some (kk, s)) H' v fr ls (fun z => by cases z) an (posL.step (R := .no kk s) (α := α) h fr)
  | some e => exact fun H' v j fr ls an => k default j (some e) H' v fr ls (fun z => by cases z) an (posL.step (R := .no e.1 e.2) (α := α) h fr)
theorem posL.fin {x : α} {v : V} (h : posL w u a rep any H (lf er (.ok x j)) Q) (ls : LS w u a H j er) (hr : er = none → rep H v x) (ha : any H v) : Q v H := by
  cases er with
  | none => exact h H v Fr.refl ls (hr rfl)
  | some e => exact h H v j Fr.refl ls ha
end
def spLFault (w : Rw) : Sp := fun vs H Q _ => ∃ (u a : Addr) (i : Nat) (er : Option (Nat × Str)) (s : Str), vs = [.ref u, .ref a, .str s] ∧ LS w u a H i er ∧ ∀ H', Fr [a] H H' → LS w u a H' i (some (er.getD (i, s))) → Q .non H'
abbrev N_l_fault : List Str := ["_law_units", "_law_at", "_law_reason"]
theorem sc_l_fault : FnScope N_l_fault ["_law_units", "_law_at", "_law_reason"] (defScope s_l_fault) := ⟨rfl, rfl, rfl, by decide +kernel, rfl, by decide +kernel, by decide +kernel⟩
def t_l_fault (K : PySem.W.Frag) (E : XK) (w : Rw) : TS :=
  (tIfS (tTest (tOp rIsN (tOp (rIxL K) (tVar 1) (tC (.int 1))) (tC .non))) (tAsg (tTup (tCons (tOp (rIxT K) (tOp (rIxL K) (tVar 0) (tOp (rIxL K) (tVar 1) (tC (.int 0)))) (tC (.int 2))) (tCons (tVar 2) tNil))) (gSub (tVar 1) (tC (.int 1)) rSetL)) tNext)
section
variable {wd : World} {K : PySem.W.Frag} {mg : Str → Option Value} {base : Heap} {w : Rw}
theorem pure_lfault (vs : List V) (H : Hp) (Q : VK) (E : XK) (h : spLFault w vs H Q E) : t_l_fault K E w { nx := fun _ H' => Q .non H', rt := Q } (start N_l_fault vs) H := by
  obtain ⟨u, a, i, er, s, rfl, ls, q⟩ := h
  refine isN_at rfl ls ?_
  cases er with
  | some e => exact iteF (q H Fr.refl ls)
  | none =>
    refine iteT (w2_at rfl rfl ls ⟨_, rfl, two_le, fun p hp => ?_⟩)
    have f1 : Fr [] H (upd H p (.tup [.int (w.pl i : Int), .str s])) := Fr.new hp
    obtain ⟨us, te, ev, h1, h2, h3, h4, h5, h6, h7⟩ := ls.fr0 f1
    refine ⟨_, rfl, a, _, 1, 1, rfl, rfl, h4, rfl, ?_⟩
    have f2 : Fr [a] (upd H p (.tup [.int (w.pl i : Int), .str s])) (upd (upd H p (.tup [.int (w.pl i : Int), .str s])) a (.lst ([.int (i : Int), ev].set 1 (.ref p)))) := Fr.put h4 (List.mem_singleton.mpr rfl)
    exact q _ ((f1.mono (by simp)).trans f2) ⟨us, te, .ref p, f2.oth _ _ h1 (by simpa using h7), h2.fr f2, f2.tup _ _ h3, upd_same, ⟨p, rfl, f2.tup _ _ upd_same⟩, h6, h7⟩
theorem ok_lfault (T : Txt K mg) : CalS R0 wd K mg base 1 "_law_fault" (spLFault w) := by
  refine cal_s T.d_l_fault T.g_l_fault sc_l_fault (fun _ _ _ _ _ _ us hl => match us, hl with | [_, _, _], _ => rfl) (fun vs H Q E h => ?_) (fun cdv A outer s H vs Q E hr h => ⟨t_l_fault K E w, ?_, pure_lfault vs H Q E h⟩)
  · obtain ⟨u, a, i, er, s, rfl, _⟩ := h
    rfl
  · exact (pss_one (ps_if (pt_cmpR op_isN (pe_ix ix_list (pv 1) pe_int (fun _ _ => rfl)) pe_non (nomark _)) (pss_one (ps_asg (pe_tup (pa_cons (pe_ix ix_tup (pe_ix ix_list (pv 0) (pe_ix ix_list (pv 1) pe_int (fun _ _ => rfl)) (fun _ _ => rfl)) pe_int (fun _ _ => rfl)) (pa_cons (pv 2) pa_nil))) (pg_sub (pv 1) pe_int set_list))) pss_nil))
end
def spLTake (w : Rw) : Sp := fun vs H Q _ => ∃ (u a : Addr) (i : Nat) (er : Option (Nat × Str)) (x : Str), vs = [.ref u, .ref a, .str x] ∧ x.length ≤ 1000 ∧ x ≠ "" ∧ LS w u a H i er ∧ posL w u a rU aY H (lf er (xpt w.ws x i)) Q
abbrev N_l_take : List Str := ["_law_units", "_law_at", "_law_word"]
theorem sc_l_take : FnScope N_l_take ["_law_units", "_law_at", "_law_word"] (defScope s_l_take) := ⟨rfl, rfl, rfl, by decide +kernel, rfl, by decide +kernel, by decide +kernel⟩
def t_l_take (K : PySem.W.Frag) (E : XK) (w : Rw) : TS :=
  (tIfS (tAnd (tTest (tOp rIsN (tOp (rIxL K) (tVar 1) (tC (.int 1))) (tC .non))) (tTest (tOp rEq (tOp (rIxT K) (tOp (rIxL K) (tVar 0) (tOp (rIxL K) (tVar 1) (tC (.int 0)))) (tC (.int 1))) (tVar 2)))) (tAsg (tOp rAddI (tOp (rIxL K) (tVar 1) (tC (.int 0))) (tC (.int 1))) (gSub (tVar 1) (tC (.int 0)) rSetL)) (tDrop (tCal (spLFault w) E (tCons (tVar 0) (tCons (tVar 1) (tCons (tOp rAddT (tC (.str "expected ")) (tVar 2)) tNil))))))
section
variable {wd : World} {K : PySem.W.Frag} {mg : Str → Option Value} {base : Heap} {w : Rw}
theorem pure_ltake (vs : List V) (H : Hp) (Q : VK) (E : XK) (h : spLTake w vs H Q E) : t_l_take K E w { nx := fun _ H' => Q .non H', rt := Q } (start N_l_take vs) H := by
  obtain ⟨u, a, i, er, x, rfl, hx, hne, ls, q⟩ := h
  have bad : posL w u a rU aY H (lf er (.no i ("expected " ++ x) : Rs Unit)) Q → tDrop (tCal (spLFault w) E (tCons (tVar 0) (tCons (tVar 1) (tCons (tOp rAddT (tC (.str "expected ")) (tVar 2)) tNil)))) { nx := fun _ H' => Q .non H', rt := Q } (start N_l_take [.ref u, .ref a, .str x]) H := fun q => by
    refine ⟨_, rfl, _, rfl, _, rfl, _, _, rfl, rfl, mil (by show 9 + x.length ≤ 1000000; omega), u, a, i, er, _, rfl, ls, fun H' fr ls' => ?_⟩
    cases er with
    | none => exact q H' .non i fr ls' trivial
    | some e => exact q H' .non i fr ls' trivial
  refine isN_at rfl ls ?_
  cases er with
  | some e => exact iteF (iteF (bad q))
  | none =>
    refine iteT (w_at rfl rfl ls ⟨_, rfl, rfl, _, rfl, ?_⟩)
    by_cases c : tk w.ws i = x
    · have q' : posL w u a rU aY H (xpt w.ws x i) Q := q
      rw [xpt, if_pos c] at q'
      refine iteTb (str_eqT c) ?_
      exact inc_at rfl ls (tk_lt w.ws (by rw [c]; exact hne)) fun H' fr ls' => q' H' .non fr ls' rfl
    · have q' : posL w u a rU aY H (xpt w.ws x i) Q := q
      rw [xpt, if_neg c] at q'
      exact iteFb (str_eqF c) (bad q')
theorem ok_ltake (T : Txt K mg) : CalS R0 wd K mg base 2 "_law_take" (spLTake w) := by
  refine cal_s T.d_l_take T.g_l_take sc_l_take (fun _ _ _ _ _ _ us hl => match us, hl with | [_, _, _], _ => rfl) (fun vs H Q E h => ?_) (fun cdv A outer s H vs Q E hr h => ⟨t_l_take K E w, ?_, pure_ltake vs H Q E h⟩)
  · obtain ⟨u, a, i, er, s, rfl, _⟩ := h
    rfl
  · exact (pss_one (ps_if (PW.pt (pw_and (pt_cmpR op_isN (pe_ix ix_list (pv 1) pe_int (fun _ _ => rfl)) pe_non (nomark _)) (pw_and1 (pt_cmpR op_eq (pe_ix ix_tup (pe_ix ix_list (pv 0) (pe_ix ix_list (pv 1) pe_int (fun _ _ => rfl)) (fun _ _ => rfl)) pe_int (fun _ _ => rfl)) (pv 2) (nomark _))))) (pss_one (ps_asg (pe_op op_add (pe_ix ix_list (pv 1) pe_int (fun _ _ => rfl)) pe_int) (pg_sub (pv 1) pe_int set_list))) (pss_one (ps_expr (pc (ok_lfault T) hr (by omega) passE rfl (pa_cons (pv 0) (pa_cons (pv 1) (pa_cons (pe_op op_add_str pe_str (pv 2)) pa_nil))))))))
end
def spLNamed : Sp := fun vs H Q _ => ∃ (t : Addr) (k x : Str) (p : V), vs = [.ref t] ∧ H t = some (.tup [.str k, .str x, p]) ∧ ∀ H', Fr [] H H' → Q (.bl (decide (k = "word") && !inV (.str x) (v_RESERVED.map V.str))) H'
abbrev N_l_named : List Str := ["_law_token", "_law_words"]
theorem sc_l_named : FnScope N_l_named ["_law_token"] (defScope s_l_named) := ⟨rfl, rfl, rfl, by decide +kernel, rfl, by decide +kernel, by decide +kernel⟩
def t_l_named (K : PySem.W.Frag) (E : XK)  : TS :=
  (tSeq (tAsg (tLst (tCons (tC (.str "let")) (tCons (tC (.str "if")) (tCons (tC (.str "else")) (tCons (tC (.str "while")) (tCons (tC (.str "for")) (tCons (tC (.str "break")) (tCons (tC (.str "continue")) (tCons (tC (.str "return")) (tCons (tC (.str "try")) (tCons (tC (.str "finally")) (tCons (tC (.str "true")) (tCons (tC (.str "false")) tNil))))))))))))) (gName 1))
  (tRet (tAndV (tOp rEq (tOp (rIxT K) (tVar 0) (tC (.int 0))) (tC (.str "word"))) (tOp (rIn K true) (tOp (rIxT K) (tVar 0) (tC (.int 1))) (tVar 1)))))
section
variable {wd : World} {K : PySem.W.Frag} {mg : Str → Option Value} {base : Heap} {w : Rw}
theorem pure_lnamed (vs : List V) (H : Hp) (Q : VK) (E : XK) (h : spLNamed vs H Q E) : t_l_named K E { nx := fun _ H' => Q .non H', rt := Q } (start N_l_named vs) H := by
  obtain ⟨t, k, x, p, rfl, ht, q⟩ := h
  refine ⟨(show 12 ≤ sizeLine by decide), fun l hl => ?_⟩
  have f1 : Fr [] H (upd H l (.lst (v_RESERVED.map V.str))) := Fr.new hl
  have ht1 := f1.tup _ _ ht
  refine ⟨_, rfl, t, _, 0, _, rfl, rfl, sqT ht1, at0, rfl, _, rfl, ?_⟩
  have q' := q _ f1
  by_cases c : k = "word"
  · refine iteTb (str_eqT c) ?_
    rw [decide_eq_true c, Bool.true_and] at q'
    exact ⟨_, rfl, t, _, 1, _, rfl, rfl, sqT ht1, at1, _, rfl, l, v_RESERVED.map V.str, rfl, .inl (sqL upd_same), rfl, by decide +kernel, q'⟩
  · refine iteFb (str_eqF c) ?_
    rw [decide_eq_false c, Bool.false_and] at q'
    exact q'
theorem ok_lnamed (T : Txt K mg) : CalS R0 wd K mg base 1 "_law_named" spLNamed := by
  refine cal_s T.d_l_named T.g_l_named sc_l_named (fun _ _ _ _ _ _ us hl => match us, hl with | [_], _ => rfl) (fun vs H Q E h => ?_) (fun cdv A outer s H vs Q E hr h => ⟨t_l_named K E, ?_, pure_lnamed vs H Q E h⟩)
  · obtain ⟨t, k, x, p, rfl, _⟩ := h
    rfl
  · exact (pss_cons (ps_set (i := 1) sc_l_named.nd rfl (Or.inl rfl) (pe_lst (pa_cons pe_str (pa_cons pe_str (pa_cons pe_str (pa_cons pe_str (pa_cons pe_str (pa_cons pe_str (pa_cons pe_str (pa_cons pe_str (pa_cons pe_str (pa_cons pe_str (pa_cons pe_str (pa_cons pe_str pa_nil))))))))))))))
      (pss_one (ps_ret (pe_and (pe_cmpR op_eq (pe_ix ix_tup (pv 0) pe_int (fun _ _ => rfl)) pe_str (nomark _)) (pe_one (pe_cmpR op_notIn_seq (pe_ix ix_tup (pv 0) pe_int (fun _ _ => rfl)) (pv 1) (by rfl)))))))
end
end K18

/-! L2: the law's reader: chains of conditions -/
namespace K18
open PySem PySem.Spec L2
open PyProof.Rows hiding St
theorem cutV_from (xs : List V) (k : Nat) : cutV xs (some (k : Int)) none = xs.drop k := by
  unfold cutV
  rw [HT.sIx_nat, HT.sIx_none]
  by_cases h : k ≤ xs.length
  · rw [Nat.min_eq_left h, List.take_of_length_le (by rw [List.length_drop]; omega)]
  · rw [Nat.min_eq_right (by omega), List.drop_of_length_le (Nat.le_refl _), List.drop_of_length_le (by omega), List.take_nil]
theorem cutV_to (xs : List V) (k : Nat) : cutV xs none (some (k : Int)) = xs.take k := by
  unfold cutV
  rw [HT.sIx_nat, HT.sIx_none, List.drop_zero, Nat.sub_zero]
  by_cases h : k ≤ xs.length
  · rw [Nat.min_eq_left h]
  · rw [Nat.min_eq_right (by omega), List.take_of_length_le (Nat.le_refl _), List.take_of_length_le (by omega)]
/-- two conditions joined -/
def jn (a : Bool) (c d : Cn) : Cn := .chn a (fl a c ++ fl a d)
theorem fl_chd (a : Bool) : ∀ l : List Cn, 0 < l.length → fl a (chd a l) = l.flatMap (fl a)
  | [c], _ => by simp [chd]
  | c :: d :: r, _ => by
    show fl a (.chn a ((c :: d :: r).flatMap (fl a))) = _
    exact if_pos rfl
theorem jn_chd (a : Bool) (l : List Cn) (d : Cn) (h : 0 < l.length) : jn a (chd a l) d = chd a (l ++ [d]) := by
  unfold jn
  rw [fl_chd a l h]
  cases l with
  | nil => cases h
  | cons c r =>
    cases r with
    | nil => simp [chd]
    | cons c2 r =>
      show _ = Cn.chn a ((c :: c2 :: (r ++ [d])).flatMap (fl a))
      have e : (c :: c2 :: (r ++ [d])).flatMap (fl a) = (c :: c2 :: r).flatMap (fl a) ++ fl a d := by simp only [List.flatMap_cons, List.flatMap_append, List.flatMap_nil, List.append_nil, List.append_assoc]
      rw [e]
def spLJoined : Sp := fun vs H Q _ => ∃ (a : Bool) (v1 v2 : V) (c1 c2 : Cn), vs = [.str (kW a), v1, v2] ∧ TD H v1 c1.data ∧ TD H v2 c2.data ∧ nd c1 + nd c2 ≤ 8000000 ∧ ∀ H' v, Fr [] H H' → TD H' v (jn a c1 c2).data → Q v H'
abbrev N_l_joined : List Str := ["_law_word", "_law_left", "_law_right", "_law_parts_here", "_law_side"]
theorem sc_l_joined : FnScope N_l_joined ["_law_word", "_law_left", "_law_right"] (defScope s_l_joined) := ⟨rfl, rfl, rfl, by decide +kernel, rfl, by decide +kernel, by decide +kernel⟩
def t_l_joined (K : PySem.W.Frag) (E : XK)  : TS :=
  (tSeq (tAsg (tLst tNil) (gName 3))
  (tSeq (tFor (iList K (tLst (tCons (tVar 1) (tCons (tVar 2) tNil)))) (gName 4) (tIfS (tTest (tOp rEq (tOp (rIxT K) (tVar 4) (tC (.int 0))) (tVar 0))) (tAsg (tOp rCat (tVar 3) (tCB (rListQ K) (tCons (tOp (rIxT K) (tVar 4) (tC (.int 1))) tNil))) (gName 3)) (tDrop (tBM K "list" rAppend (tVar 3) (tCons (tVar 4) tNil)))))
  (tRet (tTup (tCons (tVar 0) (tCons (tCB (rTupQ K) (tCons (tVar 3) tNil)) tNil))))))
theorem mil8 {n : Nat} (h : n ≤ 8000000) : n ≤ sizeLine := Nat.le_trans h (by decide)
section
variable {wd : World} {K : PySem.W.Frag} {mg : Str → Option Value} {base : Heap} {w : Rw}
/-- the two conditions, one after the other -/
theorem side_get {H : Hp} {v1 v2 : V} {c1 c2 : Cn} (h1 : TD H v1 c1.data) (h2 : TD H v2 c2.data) {i : Nat} {x : V} (hi : ([v1, v2] : List V)[i]? = some x) : ∃ c, [c1, c2][i]? = some c ∧ TD H x c.data := by
  match i, hi with
  | 0, hi => exact ⟨c1, rfl, by cases hi; exact h1⟩
  | 1, hi => exact ⟨c2, rfl, by cases hi; exact h2⟩
theorem pure_ljoined (vs : List V) (H : Hp) (Q : VK) (E : XK) (h : spLJoined vs H Q E) : t_l_joined K E { nx := fun _ H' => Q .non H', rt := Q } (start N_l_joined vs) H := by
  obtain ⟨a, v1, v2, c1, c2, rfl, h1, h2, hn, q⟩ := h
  refine ⟨Nat.zero_le _, fun l0 hl0 => ?_⟩
  have f0 : Fr [] H (upd H l0 (.lst [])) := Fr.new hl0
  refine ⟨_, rfl, _, rfl, two_le, fun f hf => ?_⟩
  have f1 : Fr [] (upd H l0 (.lst [])) (upd (upd H l0 (.lst [])) f (.lst [v1, v2])) := Fr.new hf
  have ne0 : l0 ≠ f := ne_of_none upd_same hf
  have len2 : ∀ i, nds ((([c1, c2] : List Cn).take i).flatMap (fl a)) ≤ 8000000 := fun i => by
    have z1 := nds_flm a (([c1, c2] : List Cn).take i)
    have z2 := nds_take [c1, c2] i
    simp only [nds] at z2
    omega
  have hH1 := f0.trans f1
  refine ⟨f, rfl, ⟨_, sqL upd_same⟩, for_list (xs := [v1, v2]) (fun i σ H' => ∃ (lp : Addr) (us : List V) (p4 : Option V), σ = [some (.str (kW a)), some v1, some v2, some (.ref lp), p4] ∧ H' lp = some (.lst us) ∧ lp ≠ f ∧ H' f = some (.lst [v1, v2]) ∧ H f = none ∧ H lp = none ∧ Fr [] H H' ∧ TDs H' us (Cn.datas ((([c1, c2] : List Cn).take i).flatMap (fl a))))
    ⟨l0, [], none, rfl, ?_, ne0, upd_same, ?_, hl0, hH1, by simp only [List.take_zero, List.flatMap_nil, Cn.datas]; exact .nil⟩ (fun i σ H' _ ⟨_, _, _, _, _, _, h4, _⟩ => sqL h4) ?_ ?_⟩
  · rw [upd_ne ne0]
    exact upd_same
  · have z := hf
    rw [upd_ne (Ne.symm ne0)] at z
    exact z
  · rintro i x σ H' hi ⟨lp, us, p4, rfl, hlp, nel, hf', hfn, hln, fr, hus⟩
    obtain ⟨c, ec, hx⟩ := side_get (h1.fr fr) (h2.fr fr) hi
    obtain ⟨b, ys, rfl, hb, hch⟩ := cn_open hx
    have et : ([c1, c2] : List Cn).take (i + 1) = ([c1, c2] : List Cn).take i ++ [c] := by rw [List.take_add_one, ec]; rfl
    have ul : us.length ≤ 8000000 := by
      have z := nds_len ((([c1, c2] : List Cn).take i).flatMap (fl a))
      have z2 := len2 i
      rw [hus.length, Cn.datas_map, List.length_map]
      omega
    refine ⟨_, rfl, b, _, 0, _, rfl, rfl, sqT hb, at0, _, rfl, rfl, _, rfl, ?_⟩
    by_cases ck : c.k = kW a
    · refine iteTb (str_eqT ck) ?_
      obtain ⟨cs', rfl⟩ : ∃ cs', c = .chn a cs' := by
        have n := kW_ne a
        cases c with
        | call _ => exact absurd ck n.1
        | flag _ => exact absurd ck n.2.1
        | neg _ => exact absurd ck n.2.2
        | chn a' cs' => exact ⟨cs', by rw [kW_inj ck]⟩
      obtain ⟨t, zs, rfl, ht, hz⟩ := hch a cs' rfl
      have e3 : fl a (.chn a cs') = cs' := if_pos rfl
      have zl : zs.length = cs'.length := by rw [hz.length, Cn.datas_map, List.length_map]
      refine ⟨_, rfl, _, rfl, b, _, 1, _, rfl, rfl, sqT hb, at1, t, zs, rfl, .inr (sqT ht), fun l2 hl2 => ?_⟩
      have f2 : Fr [] H' (upd H' l2 (.lst zs)) := Fr.new hl2
      have n2 : lp ≠ l2 := ne_of_none hlp hl2
      refine ⟨lp, l2, us, zs, rfl, rfl, f2.oth _ _ hlp (by simp), upd_same, mil8 ?_, fun p hp => ?_⟩
      · have z1 := nds_len (((([c1, c2] : List Cn).take i).flatMap (fl a)) ++ cs')
        have z2 := len2 (i + 1)
        rw [et, List.flatMap_append, List.flatMap_cons, List.flatMap_nil, List.append_nil, e3] at z2
        rw [List.length_append] at z1
        rw [hus.length, Cn.datas_map, List.length_map]
        omega
      · have f3 : Fr [] (upd H' l2 (.lst zs)) (upd (upd H' l2 (.lst zs)) p (.lst (us ++ zs))) := Fr.new hp
        have hp0 : H' p = none := (f2.none_of hp (by simp))
        refine ⟨p, us ++ zs, some (.ref b), rfl, upd_same, fun z => ?_, (f2.trans f3).oth _ _ hf' (by simp), hfn, fr.none_of hp0 (by simp), (fr.trans f2).trans f3, ?_⟩
        · rw [z, hf'] at hp0
          cases hp0
        · rw [et, List.flatMap_append, List.flatMap_cons, List.flatMap_nil, List.append_nil, e3, Cn.datas_map, List.map_append, ← Cn.datas_map, ← Cn.datas_map]
          exact (hus.fr (f2.trans f3)).append (hz.fr (f2.trans f3))
    · refine iteFb (str_eqF ck) ?_
      have e3 : fl a c = [c] := by
        cases c with
        | chn a' cs' => exact if_neg fun z => ck (by rw [z]; rfl)
        | _ => rfl
      refine ⟨_, rfl, .inl ⟨rfl, _, sqL hlp⟩, _, rfl, lp, us, _, rfl, rfl, hlp, Nat.lt_of_le_of_lt ul (by decide), ?_⟩
      have f2 : Fr [lp] H' (upd H' lp (.lst (us ++ [.ref b]))) := Fr.put hlp (List.mem_singleton.mpr rfl)
      refine ⟨lp, us ++ [.ref b], some (.ref b), rfl, upd_same, nel, f2.oth _ _ hf' (by simpa using Ne.symm nel), hfn, hln, fr.out hln, ?_⟩
      rw [et, List.flatMap_append, List.flatMap_cons, List.flatMap_nil, List.append_nil, e3, Cn.datas_map, List.map_append, ← Cn.datas_map]
      exact (hus.fr f2).append (.cons (hx.fr f2) .nil)
  · rintro σ H' ⟨lp, us, p4, rfl, hlp, nel, hf', hfn, hln, fr, hus⟩
    have hus' : TDs H' us (Cn.datas (fl a c1 ++ fl a c2)) := by
      have e : (([c1, c2] : List Cn).take ([v1, v2] : List V).length).flatMap (fl a) = fl a c1 ++ fl a c2 := by simp
      rw [e] at hus
      exact hus
    refine ⟨_, rfl, _, rfl, lp, us, rfl, .inl ⟨sqL hlp, fun t ht => ⟨two_le, fun p hp => ?_⟩⟩⟩
    have f1 : Fr [] H' (upd H' t (.tup us)) := Fr.new ht
    have f2 : Fr [] (upd H' t (.tup us)) (upd (upd H' t (.tup us)) p (.tup [.str (kW a), .ref t])) := Fr.new hp
    refine q _ _ ((fr.trans f1).trans f2) ?_
    rw [jn, Cn.data]
    exact TD.mk2 upd_same (.str _) (.tup (f2.tup _ _ upd_same) (hus'.fr (f1.trans f2)))
theorem ok_ljoined (T : Txt K mg) : CalS R0 wd K mg base 1 "_law_joined" spLJoined := by
  refine cal_s T.d_l_joined T.g_l_joined sc_l_joined (fun _ _ _ _ _ _ us hl => match us, hl with | [_, _, _], _ => rfl) (fun vs H Q E h => ?_) (fun cdv A outer s H vs Q E hr h => ⟨t_l_joined K E, ?_, pure_ljoined vs H Q E h⟩)
  · obtain ⟨a, v1, v2, c1, c2, rfl, _⟩ := h
    rfl
  · exact (pss_cons (ps_set (i := 3) sc_l_joined.nd rfl (Or.inl rfl) (pe_lst pa_nil))
      (pss_cons (ps_for ownE rfl (pi_list (pe_lst (pa_cons (pv 1) (pa_cons (pv 2) pa_nil)))) (pg_name (i := 4) sc_l_joined.nd rfl (Or.inl rfl)) (pss_one (ps_if (pt_cmpR op_eq (pe_ix ix_tup (pv 4) pe_int (fun _ _ => rfl)) (pv 0) (nomark _)) (pss_one (ps_set (i := 3) sc_l_joined.nd rfl (Or.inl rfl) (pe_op op_cat (pv 3) (pe_callTy call_list_of rfl T.f_list (by decide +kernel) (pa_cons (pe_ix ix_tup (pv 4) pe_int (fun _ _ => rfl)) pa_nil))))) (pss_one (ps_expr (pe_bm PySem.F.plainAttrs_list PySem.F.slot_list_append PySem.F.type_list_append mt_append (pv 3) (pa_cons (pv 4) pa_nil)))))))
      (pss_one (ps_ret (pe_tup (pa_cons (pv 0) (pa_cons (pe_callTy call_tuple_of rfl T.f_tuple (by decide +kernel) (pa_cons (pv 3) pa_nil)) pa_nil)))))))
end
def spLChained : Sp := fun vs H Q _ => ∃ (a : Bool) (l : Addr) (xs : List V) (cs : List Cn), vs = [.str (kW a), .ref l] ∧ H l = some (.lst xs) ∧ TDs H xs (Cn.datas cs) ∧ 0 < cs.length ∧ nds cs ≤ 2000000 ∧ ∀ H' v, Fr [] H H' → TD H' v (chd a cs).data → Q v H'
abbrev N_l_chained : List Str := ["_law_word", "_law_parts_here", "_law_condition_here", "_law_part"]
theorem sc_l_chained : FnScope N_l_chained ["_law_word", "_law_parts_here"] (defScope s_l_chained) := ⟨rfl, rfl, rfl, by decide +kernel, rfl, by decide +kernel, by decide +kernel⟩
def t_l_chained (K : PySem.W.Frag) (E : XK)  : TS :=
  (tSeq (tAsg (tOp (rIxL K) (tVar 1) (tC (.int 0))) (gName 2))
  (tSeq (tFor (iList K (tSl (rSlL K) (tVar 1) (tPart (tC (.int 1))) tNoPart)) (gName 3) (tAsg (tCal spLJoined E (tCons (tVar 0) (tCons (tVar 2) (tCons (tVar 3) tNil)))) (gName 2)))
  (tRet (tVar 2))))
section
variable {wd : World} {K : PySem.W.Frag} {mg : Str → Option Value} {base : Heap} {w : Rw}
theorem pure_lchained (vs : List V) (H : Hp) (Q : VK) (E : XK) (h : spLChained vs H Q E) : t_l_chained K E { nx := fun _ H' => Q .non H', rt := Q } (start N_l_chained vs) H := by
  obtain ⟨a, l, xs, cs, rfl, hl, hd, h0, hn, q⟩ := h
  cases cs with
  | nil => cases h0
  | cons c r =>
    rw [Cn.datas] at hd
    obtain ⟨v, ys, rfl, hv, hy⟩ := hd.cons_inv
    have yl : ys.length = r.length := by rw [hy.length, Cn.datas_map, List.length_map]
    refine ⟨_, rfl, l, _, 0, v, rfl, rfl, sqL hl, at0, ?_⟩
    refine ⟨_, rfl, 1, rfl, l, _, rfl, sqL hl, fun f hf => ?_⟩
    rw [show cutV (v :: ys) (some (1 : Int)) none = ys from cutV_from (v :: ys) 1] at *
    have f1 : Fr [] H (upd H f (.lst ys)) := Fr.new hf
    refine ⟨f, rfl, ⟨_, sqL upd_same⟩, for_list (xs := ys) (fun i σ H' => ∃ (cv : V) (p3 : Option V), σ = [some (.str (kW a)), some (.ref l), some cv, p3] ∧ Fr [] (upd H f (.lst ys)) H' ∧ TD H' cv (chd a (c :: r.take i)).data) ⟨v, none, rfl, Fr.refl, hv.fr f1⟩ (fun i σ H' _ ⟨_, _, _, fr, _⟩ => sqL (fr.oth _ _ upd_same (by simp))) ?_ ?_⟩
    · rintro i x σ H' hi ⟨cv, p3, rfl, fr, hc⟩
      obtain ⟨d, e1, hx⟩ := hy.get hi
      rw [Cn.datas_map, List.getElem?_map] at e1
      obtain ⟨d, ed, rfl⟩ := Option.map_eq_some_iff.mp e1
      refine ⟨_, rfl, _, rfl, _, rfl, a, cv, x, _, d, rfl, hc, (hx.fr f1).fr fr, ?_, fun H2 v2 f2 hv2 => ?_⟩
      · have z1 := nd_chd a (c :: r.take i) (by simp)
        have z2 := nds_take r i
        have z3 := nds_len r
        have z4 : nd d ≤ nds r := by
          rw [nds_sum]
          exact sum_mem (List.mem_map.mpr ⟨d, List.mem_of_getElem? ed, rfl⟩)
        rw [nds, List.length_cons, List.length_take] at z1
        rw [nds] at hn
        omega
      · refine ⟨v2, some x, rfl, fr.trans f2, ?_⟩
        rw [jn_chd a _ d (by simp)] at hv2
        rw [List.take_add_one, ed]
        exact hv2
    · rintro σ H' ⟨cv, p3, rfl, fr, hc⟩
      rw [yl, List.take_length] at hc
      exact ⟨_, rfl, q _ _ (f1.trans fr) hc⟩
theorem ok_lchained (T : Txt K mg) : CalS R0 wd K mg base 2 "_law_chained" spLChained := by
  refine cal_s T.d_l_chained T.g_l_chained sc_l_chained (fun _ _ _ _ _ _ us hl => match us, hl with | [_, _], _ => rfl) (fun vs H Q E h => ?_) (fun cdv A outer s H vs Q E hr h => ⟨t_l_chained K E, ?_, pure_lchained vs H Q E h⟩)
  · obtain ⟨a, l, xs, cs, rfl, _⟩ := h
    rfl
  · exact (pss_cons (ps_set (i := 2) sc_l_chained.nd rfl (Or.inl rfl) (pe_ix ix_list (pv 1) pe_int (fun _ _ => rfl)))
      (pss_cons (ps_for ownE rfl (pi_list (pe_slice sl_list (pv 1) (po_some pe_int) po_none)) (pg_name (i := 3) sc_l_chained.nd rfl (Or.inl rfl)) (pss_one (ps_set (i := 2) sc_l_chained.nd rfl (Or.inl rfl) (pc (ok_ljoined T) hr (by omega) passE rfl (pa_cons (pv 0) (pa_cons (pv 2) (pa_cons (pv 3) pa_nil)))))))
      (pss_one (ps_ret (pv 2)))))
end
end K18

/-! L3: the law's reader: operands -/
namespace K18
open PySem PySem.Spec L2
open PyProof.Rows hiding St
/-! ### the loop over && and ||, in one -/
def flt (ws : List Str) (u : Nat → Rs Cn) : Nat → Nat → List (List Cn) → List Cn → Rs (List (List Cn))
  | 0, i, _, _ => .no i ""
  | f + 1, j, rows, cur => if tk ws j = "||" then (u (j + 1)).bind fun c k => flt ws u f k (rows ++ [cur]) [c]
    else if tk ws j = "&&" then (u (j + 1)).bind fun c k => flt ws u f k rows (cur ++ [c])
    else .ok (rows ++ [cur]) j
theorem flt_eq (ws : List Str) {u : Nat → Rs Cn} (hu : Pays ws u) : ∀ (F j g1 g2 : Nat) (rows : List (List Cn)) (cur : List Cn), j ≤ ws.length → ws.length + 1 ≤ F + j → ws.length ≤ g1 + j → ws.length ≤ g2 + j →
    flt ws u F j rows cur = (if tk ws j = "&&" then chl ws u "&&" g1 (j + 1) cur else .ok cur j).bind fun l k => if tk ws k = "||" then chl ws (row ws u) "||" g2 (k + 1) (rows ++ [l]) else .ok (rows ++ [l]) k
  | 0, j, g1, g2, rows, cur, hj, hF, h1, h2 => by omega
  | F + 1, j, g1, g2, rows, cur, hj, hF, h1, h2 => by
    rw [flt]
    by_cases c1 : tk ws j = "||"
    · have jl := tk_lt ws (ne_e c1)
      obtain ⟨g2, rfl⟩ : ∃ g, g2 = g + 1 := ⟨g2 - 1, by omega⟩
      rw [if_pos c1, if_neg (by rw [c1]; decide +kernel)]
      show _ = if tk ws j = "||" then chl ws (row ws u) "||" (g2 + 1) (j + 1) (rows ++ [cur]) else _
      rw [if_pos c1, chl, row, chl, bassoc]
      have hp := hu (j + 1)
      generalize u (j + 1) = A at hp
      cases A with
      | no k s => rfl
      | ok c k =>
        obtain ⟨p1, p2, _⟩ := hp c k rfl
        show flt ws u F k (rows ++ [cur]) [c] = _
        rw [flt_eq ws hu F k ws.length g2 (rows ++ [cur]) [c] p2 (by omega) (by omega) (by omega)]
        rfl
    · rw [if_neg c1]
      by_cases c2 : tk ws j = "&&"
      · have jl := tk_lt ws (ne_e c2)
        obtain ⟨g1, rfl⟩ : ∃ g, g1 = g + 1 := ⟨g1 - 1, by omega⟩
        rw [if_pos c2, if_pos c2, chl, bassoc]
        have hp := hu (j + 1)
        generalize u (j + 1) = A at hp
        cases A with
        | no k s => rfl
        | ok c k =>
          obtain ⟨p1, p2, _⟩ := hp c k rfl
          show flt ws u F k rows (cur ++ [c]) = _
          rw [flt_eq ws hu F k g1 g2 rows (cur ++ [c]) p2 (by omega) (by omega) (by omega)]
          rfl
      · rw [if_neg c2, if_neg c2]
        show _ = if tk ws j = "||" then _ else Rs.ok (rows ++ [cur]) j
        rw [if_neg c1]
def fin2 (rs : List (List Cn)) (k : Nat) : Rs Cn := .ok (chd false (rs.map (chd true))) k
theorem cnd_flat (ws : List Str) {u : Nat → Rs Cn} (hu : Pays ws u) (i : Nat) : cnd ws u i = (u i).bind fun c j => (flt ws u (ws.length + 1) j [] [c]).bind fin2 := by
  unfold cnd
  rw [chl, row, chl, bassoc, bassoc]
  have hp := hu i
  generalize u i = A at hp
  cases A with
  | no k s => rfl
  | ok c j =>
    obtain ⟨p1, p2, _⟩ := hp c j rfl
    show _ = (flt ws u (ws.length + 1) j [] [c]).bind fin2
    rw [flt_eq ws hu (ws.length + 1) j ws.length ws.length [] [c] p2 (by omega) (by omega) (by omega), bassoc]
    rfl
/-! ### rows of operands, each a list -/
inductive RwT (H : Hp) (X : List Addr) : List V → List (List Cn) → Prop
  | nil : RwT H X [] []
  | cons {r : Addr} {vs rv : List V} {cs : List Cn} {rows : List (List Cn)} : H r = some (.lst vs) → TDs H vs (Cn.datas cs) → r ∉ X → RwT H X rv rows → RwT H X (.ref r :: rv) (cs :: rows)
theorem RwT.fr {H H1 : Hp} {X M : List Addr} (f : Fr M H H1) (hM : ∀ m ∈ M, m ∈ X) : ∀ {rv : List V} {rows : List (List Cn)}, RwT H X rv rows → RwT H1 X rv rows
  | _, _, .nil => .nil
  | _, _, .cons h t n l => .cons (f.oth _ _ h fun z => n (hM _ z)) (t.fr f) n (l.fr f hM)
theorem RwT.re {H : Hp} {X Y : List Addr} (h : ∀ r vs, H r = some (.lst vs) → r ∉ X → r ∉ Y) : ∀ {rv : List V} {rows : List (List Cn)}, RwT H X rv rows → RwT H Y rv rows
  | _, _, .nil => .nil
  | _, _, .cons a t n l => .cons a t (h _ _ a n) (l.re h)
theorem RwT.snoc {H : Hp} {X : List Addr} {r : Addr} {vs : List V} {cs : List Cn} (h1 : H r = some (.lst vs)) (h2 : TDs H vs (Cn.datas cs)) (h3 : r ∉ X) : ∀ {rv : List V} {rows : List (List Cn)}, RwT H X rv rows → RwT H X (rv ++ [.ref r]) (rows ++ [cs])
  | _, _, .nil => .cons h1 h2 h3 .nil
  | _, _, .cons a t n l => .cons a t n (l.snoc h1 h2 h3)
theorem RwT.len {H : Hp} {X : List Addr} : ∀ {rv : List V} {rows : List (List Cn)}, RwT H X rv rows → rv.length = rows.length
  | _, _, .nil => rfl
  | _, _, .cons _ _ _ l => congrArg Nat.succ l.len
theorem RwT.get {H : Hp} {X : List Addr} : ∀ {rv : List V} {rows : List (List Cn)}, RwT H X rv rows → ∀ {i : Nat} {v : V}, rv[i]? = some v → ∃ r vs cs, v = .ref r ∧ rows[i]? = some cs ∧ H r = some (.lst vs) ∧ TDs H vs (Cn.datas cs)
  | _, _, .nil, i, v, h => by simp at h
  | _, _, .cons a t n l, 0, v, h => by
    simp only [List.getElem?_cons_zero, Option.some.injEq] at h
    exact ⟨_, _, _, h.symm, rfl, a, t⟩
  | _, _, .cons a t n l, i + 1, v, h => by
    simp only [List.getElem?_cons_succ] at h ⊢
    exact l.get h
/-- an operand, a chain at the depth d; P says what errors may stand there -/
def spLU (w : Rw) (d : Nat) (P : Option (Nat × Str) → Prop) (f : Nat → Rs Cn) : Sp := fun vs H Q _ => ∃ (u a : Addr) (i : Nat) (er : Option (Nat × Str)), vs = [.ref u, .ref a, .int (d : Int)] ∧ P er ∧ LS w u a H i er ∧ posL w u a repC aY H (lf er (f i)) Q
instance : Inhabited Cn := ⟨.call ""⟩
abbrev N_l_read_unary : List Str := ["_law_units", "_law_at", "_law_depth", "_law_token", "_law_condition_here"]
theorem sc_l_read_unary : FnScope N_l_read_unary ["_law_units", "_law_at", "_law_depth"] (defScope s_l_read_unary) := ⟨rfl, rfl, rfl, by decide +kernel, rfl, by decide +kernel, by decide +kernel⟩
def t_l_read_unary (K : PySem.W.Frag) (E : XK) (w : Rw) (spU spC : Sp) : TS :=
  (tSeq (tAsg (tOp (rIxL K) (tVar 0) (tOp (rIxL K) (tVar 1) (tC (.int 0)))) (gName 3))
  (tSeq (tIfS (tTest (tOp rNotN (tOp (rIxL K) (tVar 1) (tC (.int 1))) (tC .non))) (tRet (tTup tNil)) tNext)
  (tSeq (tIfS (tOr (tTest (tOp rEq (tOp (rIxT K) (tVar 3) (tC (.int 1))) (tC (.str "!")))) (tTest (tOp rEq (tOp (rIxT K) (tVar 3) (tC (.int 1))) (tC (.str "("))))) (tSeq (tIfS (tTest (tOp rEq (tVar 2) (tC (.int 20)))) (tDrop (tCal (spLFault w) E (tCons (tVar 0) (tCons (tVar 1) (tCons (tC (.str "nested too deeply")) tNil))))) tNext)
  (tSeq (tAsg (tOp rAddI (tOp (rIxL K) (tVar 1) (tC (.int 0))) (tC (.int 1))) (gSub (tVar 1) (tC (.int 0)) rSetL))
  (tSeq (tIfS (tTest (tOp rEq (tOp (rIxT K) (tVar 3) (tC (.int 1))) (tC (.str "!")))) (tRet (tTup (tCons (tC (.str "not")) (tCons (tCal spU E (tCons (tVar 0) (tCons (tVar 1) (tCons (tOp rAddI (tVar 2) (tC (.int 1))) tNil)))) tNil)))) tNext)
  (tSeq (tAsg (tCal spC E (tCons (tVar 0) (tCons (tVar 1) (tCons (tOp rAddI (tVar 2) (tC (.int 1))) tNil)))) (gName 4))
  (tSeq (tDrop (tCal (spLTake w) E (tCons (tVar 0) (tCons (tVar 1) (tCons (tC (.str ")")) tNil)))))
  (tRet (tVar 4))))))) tNext)
  (tSeq (tIfS (tNot (tB (tCal spLNamed E (tCons (tVar 3) tNil)))) (tSeq (tDrop (tCal (spLFault w) E (tCons (tVar 0) (tCons (tVar 1) (tCons (tC (.str "expected a condition")) tNil)))))
  (tRet (tTup tNil))) tNext)
  (tSeq (tAsg (tOp rAddI (tOp (rIxL K) (tVar 1) (tC (.int 0))) (tC (.int 1))) (gSub (tVar 1) (tC (.int 0)) rSetL))
  (tSeq (tIfS (tTest (tOp rNe (tOp (rIxT K) (tOp (rIxL K) (tVar 0) (tOp (rIxL K) (tVar 1) (tC (.int 0)))) (tC (.int 1))) (tC (.str "(")))) (tRet (tTup (tCons (tC (.str "flag")) (tCons (tOp (rIxT K) (tVar 3) (tC (.int 1))) tNil)))) tNext)
  (tSeq (tAsg (tOp rAddI (tOp (rIxL K) (tVar 1) (tC (.int 0))) (tC (.int 1))) (gSub (tVar 1) (tC (.int 0)) rSetL))
  (tSeq (tDrop (tCal (spLTake w) E (tCons (tVar 0) (tCons (tVar 1) (tCons (tC (.str ")")) tNil)))))
  (tRet (tTup (tCons (tC (.str "call")) (tCons (tOp (rIxT K) (tVar 3) (tC (.int 1))) tNil))))))))))))
theorem isN_kd (w : Rw) (i : Nat) : (decide (kdE w i = "word") && !inV (.str (tk w.ws i)) (v_RESERVED.map V.str)) = isN w.ws i := by
  unfold isN
  rw [isNm_eq, kdE]
  by_cases c : i < w.ws.length
  · rw [if_pos c, decide_eq_true c, Bool.true_and]
  · rw [if_neg c, decide_eq_false c, Bool.false_and, show decide (("end" : Str) = "word") = false by decide +kernel, Bool.false_and]
section
variable {K : PySem.W.Frag} {H : Hp} {σ : L2.St} {D : Ends} {tA tB : TS} {x y : Str} {v0 : V} {xs : List V} {b : Addr} {k : Nat}
/-- the second item of the tuple in a local, compared -/
theorem y_eq (ho : σ[k]? = some (some (.ref b))) (hb : H b = some (.tup (v0 :: .str y :: xs))) (h1 : y = x → tA D σ H) (h2 : ¬ y = x → tB D σ H) : tIfS (tTest (tOp rEq (tOp (rIxT K) (tVar k) (tC (.int 1))) (tC (.str x)))) tA tB D σ H := by
  refine ⟨_, ho, b, _, 1, _, rfl, rfl, sqT hb, at1, rfl, _, rfl, ?_⟩
  by_cases c : y = x
  · exact iteTb (str_eqT c) (h1 c)
  · exact iteFb (str_eqF c) (h2 c)
theorem y_ne (ho : σ[k]? = some (some (.ref b))) (hb : H b = some (.tup (v0 :: .str y :: xs))) (h1 : ¬ y = x → tA D σ H) (h2 : y = x → tB D σ H) : tIfS (tTest (tOp rNe (tOp (rIxT K) (tVar k) (tC (.int 1))) (tC (.str x)))) tA tB D σ H := by
  refine ⟨_, ho, b, _, 1, _, rfl, rfl, sqT hb, at1, rfl, _, rfl, ?_⟩
  by_cases c : y = x
  · exact iteFb (str_neF c) (h2 c)
  · exact iteTb (str_neT c) (h1 c)
theorem y_eq2 {x' : Str} (ho : σ[k]? = some (some (.ref b))) (hb : H b = some (.tup (v0 :: .str y :: xs))) (h1 : y = x ∨ y = x' → tA D σ H) (h2 : ¬ (y = x ∨ y = x') → tB D σ H) : tIfS (tOr (tTest (tOp rEq (tOp (rIxT K) (tVar k) (tC (.int 1))) (tC (.str x)))) (tTest (tOp rEq (tOp (rIxT K) (tVar k) (tC (.int 1))) (tC (.str x'))))) tA tB D σ H := by
  refine ⟨_, ho, b, _, 1, _, rfl, rfl, sqT hb, at1, rfl, _, rfl, ?_⟩
  by_cases c : y = x
  · exact iteTb (str_eqT c) (iteT (h1 (.inl c)))
  · refine iteFb (str_eqF c) ⟨_, ho, b, _, 1, _, rfl, rfl, sqT hb, at1, rfl, _, rfl, ?_⟩
    by_cases d : y = x'
    · exact iteTb (str_eqT d) (h1 (.inr d))
    · exact iteFb (str_eqF d) (h2 fun z => z.elim c d)
end
section
variable {wd : World} {K : PySem.W.Frag} {mg : Str → Option Value} {base : Heap} {w : Rw}
theorem pure_lunary {rr d : Nat} (hd : d + rr = 20) {P : Option (Nat × Str) → Prop} {uf cf : Nat → Rs Cn} (h0 : rr = 0 → ∀ e, P (some e)) (hs : ∀ r', rr = r' + 1 → (∀ er, P er) ∧ uf = uny w.ws r' ∧ cf = cnd w.ws (uny w.ws r'))
    (vs : List V) (H : Hp) (Q : VK) (E : XK) (h : spLU w d (fun _ => True) (uny w.ws rr) vs H Q E) : t_l_read_unary K E w (spLU w (d + 1) P uf) (spLU w (d + 1) P cf) { nx := fun _ H' => Q .non H', rt := Q } (start N_l_read_unary vs) H := by
  obtain ⟨u, a, i, er, rfl, _, ls, q⟩ := h
  refine k_at rfl rfl ls fun t ht => ?_
  refine notN_at rfl ls ?_
  cases er with
  | some e =>
    refine iteT ⟨Nat.zero_le _, fun p hp => ?_⟩
    have fn : Fr [] H (upd H p (.tup [])) := Fr.new hp
    exact q _ _ i (fn.mono (by simp)) (ls.fr0 fn) trivial
  | none =>
    refine iteF ?_
    have q : posL w u a repC aY H (uny w.ws rr i) Q := q
    refine y_eq2 rfl ht (fun c => ?_) fun c => ?_
    · have il : i < w.ws.length := tk_lt w.ws (by rcases c with c | c <;> exact ne_e c)
      have go : ∀ (H1 : Hp) (er1 : Option (Nat × Str)), P er1 → Fr [a] H H1 → LS w u a H1 i er1 → posL w u a repC aY H1 (lf er1 (if tk w.ws i = "!" then (uf (i + 1)).bind fun c j => .ok (.neg c) j else (cf (i + 1)).bind fun c j => (xpt w.ws ")" j).bind fun _ k => .ok c k)) Q →
          tSeq (tAsg (tOp rAddI (tOp (rIxL K) (tVar 1) (tC (.int 0))) (tC (.int 1))) (gSub (tVar 1) (tC (.int 0)) rSetL))
            (tSeq (tIfS (tTest (tOp rEq (tOp (rIxT K) (tVar 3) (tC (.int 1))) (tC (.str "!")))) (tRet (tTup (tCons (tC (.str "not")) (tCons (tCal (spLU w (d + 1) P uf) E (tCons (tVar 0) (tCons (tVar 1) (tCons (tOp rAddI (tVar 2) (tC (.int 1))) tNil)))) tNil)))) tNext)
            (tSeq (tAsg (tCal (spLU w (d + 1) P cf) E (tCons (tVar 0) (tCons (tVar 1) (tCons (tOp rAddI (tVar 2) (tC (.int 1))) tNil)))) (gName 4))
            (tSeq (tDrop (tCal (spLTake w) E (tCons (tVar 0) (tCons (tVar 1) (tCons (tC (.str ")")) tNil)))))
            (tRet (tVar 4))))) { nx := fun _ H' => Q .non H', rt := Q } [some (.ref u), some (.ref a), some (.int (d : Int)), some (.ref t), none] H1 := by
        intro H1 er1 hP f1 ls1 q1
        refine inc_at rfl ls1 il fun H2 f2 ls2 => ?_
        have q2 := q1.step f2
        have ht2 := (f1.trans f2).tup _ _ ht
        refine y_eq rfl ht2 (fun b => ?_) fun b => ?_
        · rw [if_pos b] at q2
          refine ⟨_, rfl, _, rfl, _, rfl, _, _, rfl, rfl, u, a, i + 1, er1, rfl, hP, ls2, q2.bind (fun _ _ _ _ => trivial) fun x j er3 H3 v f3 ls3 hv _ q3 => ⟨two_le, fun p hp => ?_⟩⟩
          have fn : Fr [] H3 (upd H3 p (.tup [.str "not", v])) := Fr.new hp
          refine (q3.step (fn.mono (by simp))).fin (ls3.fr0 fn) (fun e => ?_) trivial
          rw [repC, Cn.data]
          exact TD.mk2 upd_same (.str _) (TD.fr (hv e).2.2 fn)
        · rw [if_neg b] at q2
          refine ⟨_, rfl, _, rfl, _, rfl, _, _, rfl, rfl, u, a, i + 1, er1, rfl, hP, ls2, q2.bind (fun _ _ _ _ => trivial) fun x j er3 H3 v f3 ls3 hv _ q3 => ?_⟩
          refine ⟨_, rfl, _, rfl, u, a, j, er3, _, rfl, by decide, by decide +kernel, ls3, q3.bind (fun _ _ _ _ => trivial) fun _ k er4 H4 _ f4 ls4 hv4 _ q4 => ?_⟩
          exact ⟨_, rfl, q4.fin ls4 (fun e => TD.fr (hv (hv4 e).1).2.2 f4) trivial⟩
      refine ⟨_, rfl, rfl, _, rfl, ?_⟩
      cases rr with
      | zero =>
        rw [uny, if_pos c] at q
        refine iteTb (decide_eq_true (by rw [show d = 20 by omega]; rfl)) ?_
        refine ⟨_, rfl, _, rfl, u, a, i, none, _, rfl, ls, fun H1 f1 ls1 => ?_⟩
        exact go H1 _ (h0 rfl _) f1 ls1 (posL.step (R := .no i nested) (α := Cn) q f1)
      | succ rr =>
        obtain ⟨hP, rfl, rfl⟩ := hs rr rfl
        refine iteFb (decide_eq_false (fun z => by have := V.int.inj z; omega)) ?_
        refine go H none (hP _) Fr.refl ls ?_
        rw [uny] at q
        by_cases b : tk w.ws i = "!"
        · rw [if_pos b] at q
          rw [if_pos b]
          exact q
        · rw [if_neg b, if_pos (c.resolve_left b)] at q
          rw [if_neg b]
          exact q
    · have q' : posL w u a repC aY H (leaf w.ws i) Q := by
        cases rr with
        | zero =>
          rw [uny, if_neg c] at q
          exact q
        | succ rr =>
          rw [uny, if_neg (fun z => c (.inl z)), if_neg (fun z => c (.inr z))] at q
          exact q
      unfold leaf at q'
      refine ⟨_, rfl, t, _, _, _, rfl, ht, fun H1 f1 => ?_⟩
      rw [isN_kd]
      have ls1 := ls.fr0 f1
      have q1 := q'.step (f1.mono (M' := [a]) (by simp))
      refine ⟨_, rfl, ?_⟩
      by_cases n : isN w.ws i = true
      · rw [n]
        rw [if_pos n] at q1
        refine iteF ?_
        refine inc_at rfl ls1 (isN_lt w.ws n) fun H2 f2 ls2 => ?_
        have q2 := q1.step f2
        have ht2 := f2.tup _ _ (f1.tup _ _ ht)
        refine w_at rfl rfl ls2 ⟨rfl, _, rfl, ?_⟩
        by_cases b : tk w.ws (i + 1) = "("
        · rw [if_pos b] at q2
          refine iteFb (str_neF b) ?_
          refine inc_at rfl ls2 (tk_lt w.ws (ne_e b)) fun H3 f3 ls3 => ?_
          have q3 := q2.step f3
          refine ⟨_, rfl, _, rfl, u, a, i + 2, none, _, rfl, by decide, by decide +kernel, ls3, posL.bind (er := none) q3 (fun _ _ _ _ => trivial) fun _ k er4 H4 _ f4 ls4 hv4 _ q4 => ?_⟩
          refine ⟨_, rfl, t, _, 1, _, rfl, rfl, sqT (f4.tup _ _ (f3.tup _ _ ht2)), at1, two_le, fun p hp => ?_⟩
          have fn : Fr [] H4 (upd H4 p (.tup [.str "call", .str (tk w.ws i)])) := Fr.new hp
          refine (q4.step (fn.mono (by simp))).fin (ls4.fr0 fn) (fun e => ?_) trivial
          rw [repC, Cn.data]
          exact TD.mk2 upd_same (.str _) (.str _)
        · rw [if_neg b] at q2
          refine iteTb (str_neT b) ?_
          refine ⟨_, rfl, t, _, 1, _, rfl, rfl, sqT ht2, at1, two_le, fun p hp => ?_⟩
          have fn : Fr [] H2 (upd H2 p (.tup [.str "flag", .str (tk w.ws i)])) := Fr.new hp
          refine posL.fin (er := none) (q2.step (fn.mono (by simp))) (ls2.fr0 fn) (fun e => ?_) trivial
          rw [repC, Cn.data]
          exact TD.mk2 upd_same (.str _) (.str _)
      · rw [if_neg n] at q1
        rw [Bool.not_eq_true] at n
        rw [n]
        refine iteT ?_
        refine ⟨_, rfl, _, rfl, u, a, i, none, _, rfl, ls1, fun H2 f2 ls2 => ⟨Nat.zero_le _, fun p hp => ?_⟩⟩
        have fn : Fr [] H2 (upd H2 p (.tup [])) := Fr.new hp
        exact q1 _ _ i (f2.trans (fn.mono (by simp))) (ls2.fr0 fn) trivial
end
end K18

/-! L4: the law's reader: chains -/
namespace K18
open PySem PySem.Spec L2
open PyProof.Rows hiding St
abbrev N_l_read_chain : List Str := ["_law_units", "_law_at", "_law_depth", "_law_rows", "_law_parts_here", "_law_k", "_law_mark", "_law_part", "_law_row"]
theorem sc_l_read_chain : FnScope N_l_read_chain ["_law_units", "_law_at", "_law_depth"] (defScope s_l_read_chain) := ⟨rfl, rfl, rfl, by decide +kernel, rfl, by decide +kernel, by decide +kernel⟩
def t_l_read_chain (K : PySem.W.Frag) (E : XK) (w : Rw) (spU : Sp) : TS :=
  (tSeq (tAsg (tLst tNil) (gName 3))
  (tSeq (tAsg (tLst (tCons (tCal spU E (tCons (tVar 0) (tCons (tVar 1) (tCons (tVar 2) tNil)))) tNil)) (gName 4))
  (tSeq (tFor (iRng1 (tCons (tCB (rLenQ K) (tCons (tVar 0) tNil)) tNil)) (gName 5) (tSeq (tAsg (tOp (rIxT K) (tOp (rIxL K) (tVar 0) (tOp (rIxL K) (tVar 1) (tC (.int 0)))) (tC (.int 1))) (gName 6))
  (tSeq (tIfS (tOr (tTest (tOp rNotN (tOp (rIxL K) (tVar 1) (tC (.int 1))) (tC .non))) (tAnd (tTest (tOp rNe (tVar 6) (tC (.str "&&")))) (tTest (tOp rNe (tVar 6) (tC (.str "||")))))) tBreak tNext)
  (tSeq (tAsg (tOp rAddI (tOp (rIxL K) (tVar 1) (tC (.int 0))) (tC (.int 1))) (gSub (tVar 1) (tC (.int 0)) rSetL))
  (tSeq (tAsg (tCal spU E (tCons (tVar 0) (tCons (tVar 1) (tCons (tVar 2) tNil)))) (gName 7))
  (tSeq (tIfS (tTest (tOp rEq (tVar 6) (tC (.str "||")))) (tSeq (tDrop (tBM K "list" rAppend (tVar 3) (tCons (tVar 4) tNil)))
  (tAsg (tLst tNil) (gName 4))) tNext)
  (tDrop (tBM K "list" rAppend (tVar 4) (tCons (tVar 7) tNil)))))))))
  (tSeq (tIfS (tTest (tOp rNotN (tOp (rIxL K) (tVar 1) (tC (.int 1))) (tC .non))) (tRet (tTup tNil)) tNext)
  (tSeq (tDrop (tBM K "list" rAppend (tVar 3) (tCons (tVar 4) tNil)))
  (tRet (tCal spLChained E (tCons (tC (.str "or")) (tCons (tLc (iList K (tVar 3)) (gName 8) tYes (tCal spLChained E0 (tCons (tC (.str "and")) (tCons (tVar 8) tNil))) [8]) tNil)))))))))
def szR (rows : List (List Cn)) : Nat := (rows.map nds).sum
theorem szR_snoc (rows : List (List Cn)) (c : List Cn) : szR (rows ++ [c]) = szR rows + nds c := by
  unfold szR
  rw [List.map_append, List.sum_append]
  simp
theorem szR_get {rows : List (List Cn)} {i : Nat} {c : List Cn} (h : rows[i]? = some c) : nds c ≤ szR rows := sum_mem (List.mem_map.mpr ⟨c, List.mem_of_getElem? h, rfl⟩)
theorem szR_chd : ∀ rows : List (List Cn), (∀ c ∈ rows, 0 < c.length) → nds (rows.map (chd true)) ≤ 2 * szR rows
  | [], _ => by simp [nds, szR]
  | c :: r, h => by
    have h1 := nd_chd true c (h c (List.mem_cons_self ..))
    have h2 := nds_len c
    have h3 := szR_chd r fun x hx => h x (List.mem_cons_of_mem _ hx)
    have e : szR (c :: r) = nds c + szR r := by simp [szR]
    rw [List.map_cons, nds, e]
    omega
theorem mil2 {n : Nat} (h : n ≤ 1000005) : n < sizeLine := Nat.lt_of_le_of_lt h (by decide)
/-- a chain under way: rows at lr, the last row at lp -/
structure ChS (w : Rw) (u a lr lp : Addr) (H H' : Hp) (k j : Nat) (er : Option (Nat × Str)) (rvs cvs : List V) (rows : List (List Cn)) (cur : List Cn) : Prop where
  fr : Fr [a] H H'
  ls : LS w u a H' j er
  hr : H' lr = some (.lst rvs)
  hp : H' lp = some (.lst cvs)
  ne : lr ≠ lp
  nr : H lr = none
  np : H lp = none
  dr : lr ≠ u ∧ lr ≠ a
  dp : lp ≠ u ∧ lp ≠ a
  l1 : rvs.length ≤ k
  l2 : cvs.length ≤ k + 1
  ok : er = none → RwT H' [lp, lr, a] rvs rows ∧ TDs H' cvs (Cn.datas cur) ∧ (∀ c ∈ rows, 0 < c.length) ∧ 0 < cur.length ∧ szR rows + nds cur ≤ Cw w.ws j ∧ k ≤ j
theorem posL.bind0 {w : Rw} {u a : Addr} {α β : Type} {rep : Hp → V → α → Prop} {any : Hp → V → Prop} {H Hc : Hp} {Q Q1 : VK} {er : Option (Nat × Str)} [Inhabited β] {repB : Hp → V → β → Prop} {anyB : Hp → V → Prop} {A : Rs β} {f : β → Nat → Rs α} (h : posL w u a rep any H (lf er (A.bind f)) Q) (ha : ∀ H v x, repB H v x → anyB H v)
    (k : ∀ x j er' H' v, Fr [a] Hc H' → LS w u a H' j er' → (er' = none → er = none ∧ A = .ok x j ∧ repB H' v x) → anyB H' v → posL w u a rep any H (lf er' (f x j)) Q → Q1 v H') : posL w u a repB anyB Hc (lf er A) Q1 := by
  cases er with
  | none =>
    cases A with
    | ok x j => exact fun H' v fr ls rp => k x j none H' v fr ls (fun _ => ⟨rfl, rfl, rp⟩) (ha _ _ _ rp) h
    | no kk s => exact fun H' v j fr ls an => k default j (some (kk, s)) H' v fr ls (fun z => by cases z) an h
  | some e => exact fun H' v j fr ls an => k default j (some e) H' v fr ls (fun z => by cases z) an h
section
variable {wd : World} {K : PySem.W.Frag} {mg : Str → Option Value} {base : Heap} {w : Rw}
theorem chain_end {u a lr lp : Addr} {d : Nat} {H H' : Hp} {k j : Nat} {er : Option (Nat × Str)} {rvs cvs : List V} {rows : List (List Cn)} {cur : List Cn} {p5 p6 p7 p8 : Option V} {Q : VK} {E : XK} (S : ChS w u a lr lp H H' k j er rvs cvs rows cur) (hk : k ≤ w.ws.length + 1)
    (q : posL w u a repC aY H (lf er (fin2 (rows ++ [cur]) j)) Q) :
    tSeq (tIfS (tTest (tOp rNotN (tOp (rIxL K) (tVar 1) (tC (.int 1))) (tC .non))) (tRet (tTup tNil)) tNext)
      (tSeq (tDrop (tBM K "list" rAppend (tVar 3) (tCons (tVar 4) tNil)))
      (tRet (tCal spLChained E (tCons (tC (.str "or")) (tCons (tLc (iList K (tVar 3)) (gName 8) tYes (tCal spLChained E0 (tCons (tC (.str "and")) (tCons (tVar 8) tNil))) [8]) tNil)))))
      { nx := fun _ H' => Q .non H', rt := Q } [some (.ref u), some (.ref a), some (.int (d : Int)), some (.ref lr), some (.ref lp), p5, p6, p7, p8] H' := by
  have sz := w.sz
  refine notN_at rfl S.ls ?_
  cases er with
  | some e =>
    refine iteT ⟨Nat.zero_le _, fun p hp => ?_⟩
    have fn : Fr [] H' (upd H' p (.tup [])) := Fr.new hp
    exact q _ _ j (S.fr.trans (fn.mono (by simp))) (S.ls.fr0 fn) trivial
  | none =>
    obtain ⟨o1, o2, o3, o4, o5, o6⟩ := S.ok rfl
    have oc := Cw_le w.ws j
    have hl1 := S.l1
    refine iteF ⟨_, rfl, .inl ⟨rfl, _, sqL S.hr⟩, _, rfl, lr, rvs, _, rfl, rfl, S.hr, mil2 (by omega), ?_⟩
    have f1 : Fr [lr] H' (upd H' lr (.lst (rvs ++ [.ref lp]))) := Fr.put S.hr (List.mem_singleton.mpr rfl)
    have fH : Fr [a] H (upd H' lr (.lst (rvs ++ [.ref lp]))) := S.fr.out S.nr
    have ls2 := S.ls.fr f1 (by simpa using Ne.symm S.dr.1) (by simpa using Ne.symm S.dr.2)
    have R2 : RwT (upd H' lr (.lst (rvs ++ [.ref lp]))) [lr, a] (rvs ++ [.ref lp]) (rows ++ [cur]) :=
      RwT.snoc (f1.oth _ _ S.hp (by simpa using Ne.symm S.ne)) (o2.fr f1) (by simp only [List.mem_cons, List.not_mem_nil, or_false]; exact fun z => z.elim (fun z => S.ne z.symm) S.dp.2)
        (RwT.fr f1 (by simp) (RwT.re (fun r vs _ n z => n (List.mem_cons_of_mem _ z)) o1))
    have h3 : ∀ c ∈ rows ++ [cur], 0 < c.length := by
      intro c hc
      rcases List.mem_append.mp hc with hc | hc
      · exact o3 c hc
      · rw [List.mem_singleton.mp hc]
        exact o4
    have hsz : szR (rows ++ [cur]) ≤ 1000000 := by
      rw [szR_snoc]
      omega
    refine ⟨_, rfl, lr, rfl, ⟨_, sqL upd_same⟩, fun D hD => lc_list (xs := rvs ++ [.ref lp]) (fun i Hc => Fr [] (upd H' lr (.lst (rvs ++ [.ref lp]))) Hc ∧ ∃ acc, Hc D = some (.lst acc) ∧ TDs Hc acc (Cn.datas (((rows ++ [cur]).take i).map (chd true))))
      ⟨Fr.new hD, [], upd_same, by simp only [List.take_zero, List.map_nil, Cn.datas]; exact .nil⟩ (fun i Hc _ p => sqL (p.1.oth _ _ upd_same (by simp))) ?_ ?_⟩
    · rintro i x Hc hi ⟨fr, acc, hacc, ht⟩
      obtain ⟨r, vs, cs, rfl, er, hvs, hcs⟩ := R2.get hi
      have z1 := szR_get er
      refine ⟨rfl, yesI ⟨_, rfl, true, r, vs, cs, rfl, fr.oth _ _ hvs (by simp), hcs.fr fr, h3 cs (List.mem_of_getElem? er), by omega, fun H4 v f4 hv => ⟨acc, f4.oth _ _ hacc (by simp), ?_, ?_⟩⟩⟩
      · have z2 : acc.length ≤ (rows ++ [cur]).length := by
          rw [ht.length, Cn.datas_map, List.length_map, List.length_map, List.length_take]
          exact Nat.min_le_right _ _
        have z3 := o1.len
        rw [List.length_append, List.length_singleton] at z2
        exact mil2 (by omega)
      · have hacc4 := f4.oth _ _ hacc (by simp)
        have f5 : Fr [D] H4 (upd H4 D (.lst (acc ++ [v]))) := Fr.put hacc4 (List.mem_singleton.mpr rfl)
        refine ⟨(fr.trans f4).out hD, _, upd_same, ?_⟩
        rw [List.take_add_one, er, List.map_append, Cn.datas_map, List.map_append, ← Cn.datas_map]
        exact ((ht.fr f4).fr f5).append (.cons (hv.fr f5) .nil)
    · rintro Hc ⟨fr, acc, hacc, ht⟩
      have z3 := R2.len
      rw [z3, List.take_length] at ht
      have z4 := szR_chd _ h3
      refine ⟨false, D, acc, _, rfl, hacc, ht, by simp, by omega, fun H4 v f4 hv => ?_⟩
      have g := fr.trans f4
      exact q H4 v (fH.trans (g.mono (by simp))) (ls2.fr0 g) hv
theorem pure_lchain {d : Nat} {P : Option (Nat × Str) → Prop} {uf : Nat → Rs Cn} (hu : Pays w.ws uf)
    (vs : List V) (H : Hp) (Q : VK) (E : XK) (h : spLU w d P (cnd w.ws uf) vs H Q E) : t_l_read_chain K E w (spLU w d P uf) { nx := fun _ H' => Q .non H', rt := Q } (start N_l_read_chain vs) H := by
  obtain ⟨u, a, i, er, rfl, hp, ls, q⟩ := h
  have sz := w.sz
  rw [cnd_flat w.ws hu] at q
  refine ⟨Nat.zero_le _, fun lr hlr => ?_⟩
  have f0 : Fr [] H (upd H lr (.lst [])) := Fr.new hlr
  have dr := ls.ne hlr
  refine ⟨_, rfl, _, rfl, _, rfl, u, a, i, er, rfl, hp, ls.fr0 f0, q.bind0 (fun _ _ _ _ => trivial) fun c j er1 H1 v f1 ls1 hv _ q1 => ⟨one_le, fun lp hlp => ?_⟩⟩
  have dp := ls1.ne hlp
  have hlr1 := f1.oth _ _ (show upd H lr (.lst []) lr = some (.lst []) from upd_same) (by simpa using dr.2)
  have f2 : Fr [] H1 (upd H1 lp (.lst [v])) := Fr.new hlp
  have nep : lr ≠ lp := ne_of_none hlr1 hlp
  have f01 : Fr [a] H H1 := (f0.mono (by simp)).trans f1
  have npH : H lp = none := by
    have z := f1.none_of hlp (by simpa using dp.2)
    rw [upd_ne (Ne.symm nep)] at z
    exact z
  have g1 := f01.trans (f2.mono (M' := [a]) (by simp))
  obtain ⟨us, te, ev, hu1, hu2, _⟩ := id (ls1.fr0 f2)
  refine ⟨_, rfl, u, us ++ [.ref te], rfl, .inl (sqL hu1), _, rfl, by omega, ?_, ?_⟩
  · have := hu2.len
    rw [List.length_append, List.length_singleton]
    omega
  have ul : (us ++ [V.ref te]).length = w.ws.length + 1 := by
    have := hu2.len
    rw [List.length_append, List.length_singleton]
    omega
  rw [ul, Int.toNat_natCast]
  -- the loop
  refine for_range (fun k σ H' => ∃ (lp : Addr) (j : Nat) (er : Option (Nat × Str)) (rvs cvs : List V) (rows : List (List Cn)) (cur : List Cn) (p5 p6 p7 p8 : Option V), σ = [some (.ref u), some (.ref a), some (.int (d : Int)), some (.ref lr), some (.ref lp), p5, p6, p7, p8] ∧ ChS w u a lr lp H H' k j er rvs cvs rows cur ∧ (er = none → P none) ∧
    posL w u a repC aY H (lf er ((flt w.ws uf (w.ws.length + 1 - k) j rows cur).bind fin2)) Q) ⟨lp, j, er1, [], [v], [], [c], none, none, none, none, rfl, ⟨g1, ls1.fr0 f2, f2.oth _ _ hlr1 (by simp), upd_same, nep, hlr, npH, dr, dp, Nat.le_refl _, Nat.le_refl _, fun e => ?_⟩, fun e => ?_, ?_⟩ ?_ ?_
  · obtain ⟨e1, e2, e3⟩ := hv e
    obtain ⟨b1, b2, b3⟩ := hu _ _ _ e2
    refine ⟨.nil, .cons (TD.fr e3 f2) .nil, fun _ z => by simp at z, Nat.one_pos, ?_, Nat.zero_le _⟩
    simp only [szR, nds, List.map_nil, List.sum_nil]
    omega
  · exact (hv e).1 ▸ hp
  · exact q1
  · rintro k σ H' hk ⟨lp, j, er, rvs, cvs, rows, cur, p5, p6, p7, p8, rfl, S, hPn, q⟩
    have hj := S.ls.le
    refine w_at rfl rfl S.ls ?_
    refine notN_at rfl S.ls ?_
    cases er with
    | some e => exact iteT (iteT (chain_end S (by omega) q))
    | none =>
      obtain ⟨o1, o2, o3, o4, o5, o6⟩ := S.ok rfl
      refine iteF ?_
      obtain ⟨F, hF⟩ : ∃ F, w.ws.length + 1 - k = F + 1 := ⟨w.ws.length - k, by omega⟩
      have hF2 : w.ws.length + 1 - (k + 1) = F := by omega
      have q : posL w u a repC aY H ((flt w.ws uf (w.ws.length + 1 - k) j rows cur).bind fin2) Q := q
      rw [hF, flt] at q
      refine ⟨_, rfl, rfl, _, rfl, ?_⟩
      have cont : ∀ b : Bool, tk w.ws j = (if b then "||" else "&&") → posL w u a repC aY H (lf none ((uf (j + 1)).bind fun c m => (if b then flt w.ws uf F m (rows ++ [cur]) [c] else flt w.ws uf F m rows (cur ++ [c])).bind fin2)) Q →
          tSeq (tAsg (tOp rAddI (tOp (rIxL K) (tVar 1) (tC (.int 0))) (tC (.int 1))) (gSub (tVar 1) (tC (.int 0)) rSetL))
            (tSeq (tAsg (tCal (spLU w d P uf) E (tCons (tVar 0) (tCons (tVar 1) (tCons (tVar 2) tNil)))) (gName 7))
            (tSeq (tIfS (tTest (tOp rEq (tVar 6) (tC (.str "||")))) (tSeq (tDrop (tBM K "list" rAppend (tVar 3) (tCons (tVar 4) tNil))) (tAsg (tLst tNil) (gName 4))) tNext)
            (tDrop (tBM K "list" rAppend (tVar 4) (tCons (tVar 7) tNil)))))
            { nx := fun σ H' => ∃ (lp : Addr) (j : Nat) (er : Option (Nat × Str)) (rvs cvs : List V) (rows : List (List Cn)) (cur : List Cn) (p5 p6 p7 p8 : Option V), σ = [some (.ref u), some (.ref a), some (.int (d : Int)), some (.ref lr), some (.ref lp), p5, p6, p7, p8] ∧ ChS w u a lr lp H H' (k + 1) j er rvs cvs rows cur ∧ (er = none → P none) ∧
                posL w u a repC aY H (lf er ((flt w.ws uf (w.ws.length + 1 - (k + 1)) j rows cur).bind fin2)) Q, rt := Q }
            [some (.ref u), some (.ref a), some (.int (d : Int)), some (.ref lr), some (.ref lp), some (.int (0 + (k : Int))), some (.str (tk w.ws j)), p7, p8] H' := by
        intro b hb q
        have jl : j < w.ws.length := tk_lt w.ws (by rw [hb]; cases b <;> decide +kernel)
        refine inc_at rfl S.ls jl fun H2 f2 ls2 => ?_
        refine ⟨_, rfl, _, rfl, _, rfl, u, a, j + 1, none, rfl, hPn rfl, ls2, q.bind0 (fun _ _ _ _ => trivial) fun c m er3 H3 v f3 ls3 hv _ q3 => ?_⟩
        have f23 := f2.trans f3
        have hr3 := f23.oth _ _ S.hr (by simpa using S.dr.2)
        have hp3 := f23.oth _ _ S.hp (by simpa using S.dp.2)
        have fH3 := S.fr.trans f23
        have hl1 := S.l1
        have hl2 := S.l2
        have cj := Cw_succ w.ws j
        have pays : er3 = none → j + 1 < m ∧ m ≤ w.ws.length ∧ nd c + Cw w.ws (j + 1) ≤ Cw w.ws m := fun e => hu _ _ _ (hv e).2.1
        cases b with
        | true =>
          refine v_eq (k := 6) rfl (fun _ => ?_) fun z => absurd hb z
          refine ⟨_, rfl, .inl ⟨rfl, _, sqL hr3⟩, _, rfl, lr, rvs, _, rfl, rfl, hr3, mil2 (by omega), ?_⟩
          have f4 : Fr [lr] H3 (upd H3 lr (.lst (rvs ++ [.ref lp]))) := Fr.put hr3 (List.mem_singleton.mpr rfl)
          refine ⟨Nat.zero_le _, fun lq hlq => ?_⟩
          have f5 : Fr [] (upd H3 lr (.lst (rvs ++ [.ref lp]))) (upd (upd H3 lr (.lst (rvs ++ [.ref lp]))) lq (.lst [])) := Fr.new hlq
          refine ⟨_, rfl, .inl ⟨rfl, _, sqL upd_same⟩, _, rfl, lq, [], _, rfl, rfl, upd_same, by decide, ?_⟩
          have f6 : Fr [lq] (upd (upd H3 lr (.lst (rvs ++ [.ref lp]))) lq (.lst [])) (upd (upd (upd H3 lr (.lst (rvs ++ [.ref lp]))) lq (.lst [])) lq (.lst [v])) := Fr.put upd_same (List.mem_singleton.mpr rfl)
          have ls4 := ls3.fr f4 (by simpa using Ne.symm S.dr.1) (by simpa using Ne.symm S.dr.2)
          have dq := ls4.ne hlq
          have nlq : lr ≠ lq := ne_of_none upd_same hlq
          have hq3 : H3 lq = none := by
            have z := hlq
            rw [upd_ne (Ne.symm nlq)] at z
            exact z
          have nqH : H lq = none := fH3.none_of hq3 (by simpa using dq.2)
          have npq : lp ≠ lq := ne_of_none hp3 hq3
          have fin : Fr [a] H (upd (upd (upd H3 lr (.lst (rvs ++ [.ref lp]))) lq (.lst [])) lq (.lst [v])) := ((fH3.out S.nr).out nqH).out nqH
          refine ⟨lq, m, er3, rvs ++ [.ref lp], [v], rows ++ [cur], [c], some (.int (0 + (k : Int))), some (.str (tk w.ws j)), some v, p8, rfl, ⟨fin, (ls4.fr0 f5).fr f6 (by simpa using Ne.symm dq.1) (by simpa using Ne.symm dq.2), ?_, upd_same, nlq, S.nr, nqH, S.dr, dq, ?_, ?_, fun e => ?_⟩, fun _ => hPn rfl, ?_⟩
          · exact f6.oth _ _ (f5.oth _ _ upd_same (by simp)) (by simpa using nlq)
          · rw [List.length_append, List.length_singleton]
            omega
          · show 1 ≤ _
            omega
          · obtain ⟨_, _, hvc⟩ := hv e
            obtain ⟨b1, b2, b3⟩ := pays e
            have r1 : RwT H3 [lp, lr, a] rvs rows := o1.fr f23 (by simp)
            have r2 : RwT (upd H3 lr (.lst (rvs ++ [.ref lp]))) [lr, a] (rvs ++ [.ref lp]) (rows ++ [cur]) :=
              RwT.snoc (f4.oth _ _ hp3 (by simpa using Ne.symm S.ne)) ((o2.fr f23).fr f4) (by simp only [List.mem_cons, List.not_mem_nil, or_false]; exact fun z => z.elim (fun z => S.ne z.symm) S.dp.2)
                (RwT.fr f4 (by simp) (RwT.re (fun r vs _ n z => n (List.mem_cons_of_mem _ z)) r1))
            have r3 : RwT (upd H3 lr (.lst (rvs ++ [.ref lp]))) [lq, lr, a] (rvs ++ [.ref lp]) (rows ++ [cur]) := RwT.re (fun r vs h n z => by
              rcases List.mem_cons.mp z with z | z
              · rw [z, hlq] at h
                cases h
              · exact n z) r2
            refine ⟨RwT.fr f6 (by simp) (RwT.fr f5 (by simp) r3), .cons (TD.fr (TD.fr (TD.fr hvc f4) f5) f6) .nil, fun c' hc' => ?_, Nat.one_pos, ?_, by omega⟩
            · rcases List.mem_append.mp hc' with hc' | hc'
              · exact o3 c' hc'
              · rw [List.mem_singleton.mp hc']
                exact o4
            · rw [szR_snoc, nds, nds]
              have := wt_bar
              omega
          · rw [hF2]
            exact q3
        | false =>
          refine v_eq (k := 6) rfl (fun z => absurd (hb.symm.trans z) (by decide +kernel)) fun _ => ?_
          refine ⟨_, rfl, .inl ⟨rfl, _, sqL hp3⟩, _, rfl, lp, cvs, _, rfl, rfl, hp3, mil2 (by omega), ?_⟩
          have f4 : Fr [lp] H3 (upd H3 lp (.lst (cvs ++ [v]))) := Fr.put hp3 (List.mem_singleton.mpr rfl)
          refine ⟨lp, m, er3, rvs, cvs ++ [v], rows, cur ++ [c], some (.int (0 + (k : Int))), some (.str (tk w.ws j)), some v, p8, rfl, ⟨fH3.out S.np, ls3.fr f4 (by simpa using Ne.symm S.dp.1) (by simpa using Ne.symm S.dp.2), f4.oth _ _ hr3 (by simpa using S.ne), upd_same, S.ne, S.nr, S.np, S.dr, S.dp, by omega, ?_, fun e => ?_⟩, fun _ => hPn rfl, ?_⟩
          · rw [List.length_append, List.length_singleton]
            omega
          · obtain ⟨_, _, hvc⟩ := hv e
            obtain ⟨b1, b2, b3⟩ := pays e
            refine ⟨RwT.fr f4 (by simp) (o1.fr f23 (by simp)), ?_, o3, by simp, ?_, by omega⟩
            · rw [Cn.datas_map, List.map_append, ← Cn.datas_map]
              exact ((o2.fr f23).fr f4).append (.cons (TD.fr hvc f4) .nil)
            · rw [nds_append, nds, nds]
              omega
          · rw [hF2]
            exact q3
      by_cases c1 : tk w.ws j = "&&"
      · refine iteFb (str_neF c1) (iteF ?_)
        rw [if_neg (by rw [c1]; decide +kernel), if_pos c1, bassoc] at q
        exact cont false c1 q
      · refine iteTb (str_neT c1) ⟨_, rfl, rfl, _, rfl, ?_⟩
        by_cases c2 : tk w.ws j = "||"
        · refine iteFb (str_neF c2) ?_
          rw [if_pos c2, bassoc] at q
          exact cont true c2 q
        · refine iteTb (str_neT c2) ?_
          rw [if_neg c2, if_neg c1] at q
          exact chain_end S (by omega) q
  · rintro σ H' ⟨lp, j, er, rvs, cvs, rows, cur, p5, p6, p7, p8, rfl, S, hPn, q⟩
    cases er with
    | some e => exact chain_end S (Nat.le_refl _) q
    | none =>
      have := (S.ok rfl).2.2.2.2.2
      have := S.ls.le
      omega
end
end K18

/-! L5: the law's reader: conditions, truths, jumps -/
namespace K18
open PySem PySem.Spec L2
open PyProof.Rows hiding St

abbrev N_l_read_truth : List Str := ["_law_units", "_law_at", "_law_word"]
theorem sc_l_read_truth : FnScope N_l_read_truth ["_law_units", "_law_at"] (defScope s_l_read_truth) := ⟨rfl, rfl, rfl, by decide +kernel, rfl, by decide +kernel, by decide +kernel⟩
def t_l_read_truth (K : PySem.W.Frag) (E : XK) (w : Rw) : TS :=
  (tSeq (tDrop (tCal (spLTake w) E (tCons (tVar 0) (tCons (tVar 1) (tCons (tC (.str "=")) tNil)))))
  (tSeq (tAsg (tOp (rIxT K) (tOp (rIxL K) (tVar 0) (tOp (rIxL K) (tVar 1) (tC (.int 0)))) (tC (.int 1))) (gName 2))
  (tSeq (tIfS (tAnd (tTest (tOp rIsN (tOp (rIxL K) (tVar 1) (tC (.int 1))) (tC .non))) (tOr (tTest (tOp rEq (tVar 2) (tC (.str "true")))) (tTest (tOp rEq (tVar 2) (tC (.str "false")))))) (tAsg (tOp rAddI (tOp (rIxL K) (tVar 1) (tC (.int 0))) (tC (.int 1))) (gSub (tVar 1) (tC (.int 0)) rSetL)) (tDrop (tCal (spLFault w) E (tCons (tVar 0) (tCons (tVar 1) (tCons (tC (.str "expected true or false")) tNil))))))
  (tSeq (tDrop (tCal (spLTake w) E (tCons (tVar 0) (tCons (tVar 1) (tCons (tC (.str ";")) tNil)))))
  (tRet (tOp rEq (tVar 2) (tC (.str "true"))))))))
abbrev N_l_read_jump : List Str := ["_law_units", "_law_at", "_law_word", "_law_token", "_law_worth"]
theorem sc_l_read_jump : FnScope N_l_read_jump ["_law_units", "_law_at", "_law_word"] (defScope s_l_read_jump) := ⟨rfl, rfl, rfl, by decide +kernel, rfl, by decide +kernel, by decide +kernel⟩
def t_l_read_jump (K : PySem.W.Frag) (E : XK) (w : Rw) : TS :=
  (tSeq (tAsg (tOp (rIxL K) (tVar 0) (tOp (rIxL K) (tVar 1) (tC (.int 0)))) (gName 3))
  (tSeq (tAsg (tC .non) (gName 4))
  (tSeq (tIfS (tTest (tOp rEq (tVar 2) (tC (.str "return")))) (tIfS (tTest (tOp rEq (tOp (rIxT K) (tVar 3) (tC (.int 0))) (tC (.str "number")))) (tSeq (tAsg (tCB rIntS (tCons (tOp (rIxT K) (tVar 3) (tC (.int 1))) tNil)) (gName 4))
  (tAsg (tOp rAddI (tOp (rIxL K) (tVar 1) (tC (.int 0))) (tC (.int 1))) (gSub (tVar 1) (tC (.int 0)) rSetL))) (tIfS (tTest (tOp rNe (tOp (rIxT K) (tVar 3) (tC (.int 1))) (tC (.str ";")))) (tDrop (tCal (spLFault w) E (tCons (tVar 0) (tCons (tVar 1) (tCons (tC (.str "expected a number or ;")) tNil))))) tNext)) (tIfS (tB (tCal spLNamed E (tCons (tVar 3) tNil))) (tSeq (tAsg (tOp (rIxT K) (tVar 3) (tC (.int 1))) (gName 4))
  (tAsg (tOp rAddI (tOp (rIxL K) (tVar 1) (tC (.int 0))) (tC (.int 1))) (gSub (tVar 1) (tC (.int 0)) rSetL))) (tIfS (tTest (tOp rNe (tOp (rIxT K) (tVar 3) (tC (.int 1))) (tC (.str ";")))) (tDrop (tCal (spLFault w) E (tCons (tVar 0) (tCons (tVar 1) (tCons (tC (.str "expected a label or ;")) tNil))))) tNext)))
  (tSeq (tDrop (tCal (spLTake w) E (tCons (tVar 0) (tCons (tVar 1) (tCons (tC (.str ";")) tNil)))))
  (tRet (tTup (tCons (tVar 2) (tCons (tVar 4) tNil))))))))
section
variable {wd : World} {K : PySem.W.Frag} {mg : Str → Option Value} {base : Heap} {w : Rw}
theorem pure_lunE {d : Nat} {f : Nat → Rs Cn} {spU spC : Sp} (vs : List V) (H : Hp) (Q : VK) (E : XK) (h : spLU w d (fun er => er ≠ none) f vs H Q E) : t_l_read_unary K E w spU spC { nx := fun _ H' => Q .non H', rt := Q } (start N_l_read_unary vs) H := by
  obtain ⟨u, a, i, er, rfl, hp, ls, q⟩ := h
  refine k_at rfl rfl ls fun t ht => ?_
  refine notN_at rfl ls ?_
  cases er with
  | none => exact absurd rfl hp
  | some e =>
    refine iteT ⟨Nat.zero_le _, fun p hp => ?_⟩
    have fn : Fr [] H (upd H p (.tup [])) := Fr.new hp
    exact q _ _ i (fn.mono (by simp)) (ls.fr0 fn) trivial
theorem lu_len {d : Nat} {P : Option (Nat × Str) → Prop} {f : Nat → Rs Cn} (vs : List V) (H : Hp) (Q : VK) (E : XK) (h : spLU w d P f vs H Q E) : vs.length = 3 := by
  obtain ⟨u, a, i, er, rfl, _⟩ := h
  rfl
theorem ok_lunT (T : Txt K mg) {k : Nat} {spU spC sp : Sp} (GU : CalS R0 wd K mg base k "_law_read_unary" spU) (GC : CalS R0 wd K mg base k "_law_read_chain" spC) (hk : 2 ≤ k) (len : ∀ vs H Q E, sp vs H Q E → vs.length = 3)
    (hp : ∀ vs H Q E, sp vs H Q E → t_l_read_unary K E w spU spC { nx := fun _ H' => Q .non H', rt := Q } (start N_l_read_unary vs) H) : CalS R0 wd K mg base (k + 1) "_law_read_unary" sp := by
  refine cal_s T.d_l_read_unary T.g_l_read_unary sc_l_read_unary (fun _ _ _ _ _ _ us hl => match us, hl with | [_, _, _], _ => rfl) len (fun cdv A outer s H vs Q E hr h => ⟨t_l_read_unary K E w spU spC, ?_, hp vs H Q E h⟩)
  exact (pss_cons (ps_set (i := 3) sc_l_read_unary.nd rfl (Or.inl rfl) (pe_ix ix_list (pv 0) (pe_ix ix_list (pv 1) pe_int (fun _ _ => rfl)) (fun _ _ => rfl)))
      (pss_cons (ps_if (pt_cmpR op_notN (pe_ix ix_list (pv 1) pe_int (fun _ _ => rfl)) pe_non (nomark _)) (pss_one (ps_ret (pe_tup pa_nil))) pss_nil)
      (pss_cons (ps_if (PW.pt (pw_or (pt_cmpR op_eq (pe_ix ix_tup (pv 3) pe_int (fun _ _ => rfl)) pe_str (nomark _)) (pw_or1 (pt_cmpR op_eq (pe_ix ix_tup (pv 3) pe_int (fun _ _ => rfl)) pe_str (nomark _))))) (pss_cons (ps_if (pt_cmpR op_eq (pv 2) pe_int (nomark _)) (pss_one (ps_expr (pc (ok_lfault T) hr (by omega) passE rfl (pa_cons (pv 0) (pa_cons (pv 1) (pa_cons pe_str pa_nil)))))) pss_nil)
      (pss_cons (ps_asg (pe_op op_add (pe_ix ix_list (pv 1) pe_int (fun _ _ => rfl)) pe_int) (pg_sub (pv 1) pe_int set_list))
      (pss_cons (ps_if (pt_cmpR op_eq (pe_ix ix_tup (pv 3) pe_int (fun _ _ => rfl)) pe_str (nomark _)) (pss_one (ps_ret (pe_tup (pa_cons pe_str (pa_cons (pc GU hr (by omega) passE rfl (pa_cons (pv 0) (pa_cons (pv 1) (pa_cons (pe_op op_add (pv 2) pe_int) pa_nil)))) pa_nil))))) pss_nil)
      (pss_cons (ps_set (i := 4) sc_l_read_unary.nd rfl (Or.inl rfl) (pc GC hr (by omega) passE rfl (pa_cons (pv 0) (pa_cons (pv 1) (pa_cons (pe_op op_add (pv 2) pe_int) pa_nil)))))
      (pss_cons (ps_expr (pc (ok_ltake T) hr (by omega) passE rfl (pa_cons (pv 0) (pa_cons (pv 1) (pa_cons pe_str pa_nil)))))
      (pss_one (ps_ret (pv 4)))))))) pss_nil)
      (pss_cons (ps_if (pt_not (pt_val (pc (ok_lnamed T) hr (by omega) passE rfl (pa_cons (pv 3) pa_nil)))) (pss_cons (ps_expr (pc (ok_lfault T) hr (by omega) passE rfl (pa_cons (pv 0) (pa_cons (pv 1) (pa_cons pe_str pa_nil)))))
      (pss_one (ps_ret (pe_tup pa_nil)))) pss_nil)
      (pss_cons (ps_asg (pe_op op_add (pe_ix ix_list (pv 1) pe_int (fun _ _ => rfl)) pe_int) (pg_sub (pv 1) pe_int set_list))
      (pss_cons (ps_if (pt_cmpR op_ne (pe_ix ix_tup (pe_ix ix_list (pv 0) (pe_ix ix_list (pv 1) pe_int (fun _ _ => rfl)) (fun _ _ => rfl)) pe_int (fun _ _ => rfl)) pe_str (nomark _)) (pss_one (ps_ret (pe_tup (pa_cons pe_str (pa_cons (pe_ix ix_tup (pv 3) pe_int (fun _ _ => rfl)) pa_nil))))) pss_nil)
      (pss_cons (ps_asg (pe_op op_add (pe_ix ix_list (pv 1) pe_int (fun _ _ => rfl)) pe_int) (pg_sub (pv 1) pe_int set_list))
      (pss_cons (ps_expr (pc (ok_ltake T) hr (by omega) passE rfl (pa_cons (pv 0) (pa_cons (pv 1) (pa_cons pe_str pa_nil)))))
      (pss_one (ps_ret (pe_tup (pa_cons pe_str (pa_cons (pe_ix ix_tup (pv 3) pe_int (fun _ _ => rfl)) pa_nil)))))))))))))
theorem ok_lchT (T : Txt K mg) {k d : Nat} {P : Option (Nat × Str) → Prop} {uf : Nat → Rs Cn} (hu : Pays w.ws uf) (GU : CalS R0 wd K mg base k "_law_read_unary" (spLU w d P uf)) (hk : 2 ≤ k) : CalS R0 wd K mg base (k + 1) "_law_read_chain" (spLU w d P (cnd w.ws uf)) := by
  refine cal_s T.d_l_read_chain T.g_l_read_chain sc_l_read_chain (fun _ _ _ _ _ _ us hl => match us, hl with | [_, _, _], _ => rfl) lu_len (fun cdv A outer s H vs Q E hr h => ⟨t_l_read_chain K E w (spLU w d P uf), ?_, pure_lchain hu vs H Q E h⟩)
  have spU := spLU w d P uf
  exact (pss_cons (ps_set (i := 3) sc_l_read_chain.nd rfl (Or.inl rfl) (pe_lst pa_nil))
      (pss_cons (ps_set (i := 4) sc_l_read_chain.nd rfl (Or.inl rfl) (pe_lst (pa_cons (pc GU hr (by omega) passE rfl (pa_cons (pv 0) (pa_cons (pv 1) (pa_cons (pv 2) pa_nil)))) pa_nil)))
      (pss_cons (ps_for ownE rfl (pi_range1 rfl T.f_range (pa_cons (pe_callB call_len_seq rfl T.f_len (by decide +kernel) (pa_cons (pv 0) pa_nil)) pa_nil)) (pg_name (i := 5) sc_l_read_chain.nd rfl (Or.inl rfl)) (pss_cons (ps_set (i := 6) sc_l_read_chain.nd rfl (Or.inl rfl) (pe_ix ix_tup (pe_ix ix_list (pv 0) (pe_ix ix_list (pv 1) pe_int (fun _ _ => rfl)) (fun _ _ => rfl)) pe_int (fun _ _ => rfl)))
      (pss_cons (ps_if (PW.pt (pw_or (pt_cmpR op_notN (pe_ix ix_list (pv 1) pe_int (fun _ _ => rfl)) pe_non (nomark _)) (pw_or1 (PW.pt (pw_and (pt_cmpR op_ne (pv 6) pe_str (nomark _)) (pw_and1 (pt_cmpR op_ne (pv 6) pe_str (nomark _)))))))) (pss_one ps_break) pss_nil)
      (pss_cons (ps_asg (pe_op op_add (pe_ix ix_list (pv 1) pe_int (fun _ _ => rfl)) pe_int) (pg_sub (pv 1) pe_int set_list))
      (pss_cons (ps_set (i := 7) sc_l_read_chain.nd rfl (Or.inl rfl) (pc GU hr (by omega) passE rfl (pa_cons (pv 0) (pa_cons (pv 1) (pa_cons (pv 2) pa_nil)))))
      (pss_cons (ps_if (pt_cmpR op_eq (pv 6) pe_str (nomark _)) (pss_cons (ps_expr (pe_bm PySem.F.plainAttrs_list PySem.F.slot_list_append PySem.F.type_list_append mt_append (pv 3) (pa_cons (pv 4) pa_nil)))
      (pss_one (ps_set (i := 4) sc_l_read_chain.nd rfl (Or.inl rfl) (pe_lst pa_nil)))) pss_nil)
      (pss_one (ps_expr (pe_bm PySem.F.plainAttrs_list PySem.F.slot_list_append PySem.F.type_list_append mt_append (pv 4) (pa_cons (pv 7) pa_nil))))))))))
      (pss_cons (ps_if (pt_cmpR op_notN (pe_ix ix_list (pv 1) pe_int (fun _ _ => rfl)) pe_non (nomark _)) (pss_one (ps_ret (pe_tup pa_nil))) pss_nil)
      (pss_cons (ps_expr (pe_bm PySem.F.plainAttrs_list PySem.F.slot_list_append PySem.F.type_list_append mt_append (pv 3) (pa_cons (pv 4) pa_nil)))
      (pss_one (ps_ret (pc (ok_lchained T) hr (by omega) passE rfl (pa_cons pe_str (pa_cons (pe_lc (own := [("_law_row", 8)]) (g := gName 8) (tt := tYes) rfl sc_l_read_chain.nd (pi_list (pv 3)) (blkOk_by (N := N_l_read_chain) (sc := defScope s_l_read_chain) (by decide +kernel)) (fun _ _ _ _ _ => pg_name (i := 8) sc_l_read_chain.nd rfl (Or.inl rfl)) (fun _ _ _ _ _ => pts_nil) (fun _ _ _ _ _ => (pc (ok_lchained T) hr (by omega) passL rfl (pa_cons pe_str (pa_cons (pv 8) pa_nil))))) pa_nil))))))))))
theorem ok_lun (T : Txt K mg) : ∀ rr d, d + rr = 20 → CalS R0 wd K mg base (2 * rr + 6) "_law_read_unary" (spLU w d (fun _ => True) (uny w.ws rr)) := by
  have nU : ∀ k, CalS R0 wd K mg base k "_law_read_unary" spNo := fun k => cal_no (ps := ["_law_units", "_law_at", "_law_depth"]) T.d_l_read_unary T.g_l_read_unary (fun _ _ _ _ _ _ us hl => match us, hl with | [_, _, _], _ => rfl) k
  have nC : ∀ k, CalS R0 wd K mg base k "_law_read_chain" spNo := fun k => cal_no (ps := ["_law_units", "_law_at", "_law_depth"]) T.d_l_read_chain T.g_l_read_chain (fun _ _ _ _ _ _ us hl => match us, hl with | [_, _, _], _ => rfl) k
  intro rr
  induction rr with
  | zero =>
    intro d hd
    have GU := ok_lunT (w := w) (sp := spLU w (d + 1) (fun er => er ≠ none) (fun i => .no i "")) T (nU 2) (nC 2) (by omega) lu_len (fun vs H Q E h => pure_lunE vs H Q E h)
    have GC := ok_lchT (w := w) T (fun _ _ _ z => by cases z) GU (by omega)
    exact (ok_lunT (w := w) (sp := spLU w d (fun _ => True) (uny w.ws 0)) T (GU.up (by omega)) GC (by omega) lu_len (pure_lunary hd (fun _ e => by simp) fun r' z => by cases z)).up (by omega)
  | succ rr ih =>
    intro d hd
    have GU := ih (d + 1) (by omega)
    have GC := ok_lchT T (uny_pays w.ws rr) GU (by omega)
    have z := ok_lunT (w := w) (sp := spLU w d (fun _ => True) (uny w.ws (rr + 1))) T (GU.up (Nat.le_succ _)) GC (by omega) lu_len (pure_lunary hd (fun z => by cases z) fun r' z => by cases z; exact ⟨fun _ => trivial, rfl, rfl⟩)
    exact z.up (by omega)
theorem ok_lcond (T : Txt K mg) : CalS R0 wd K mg base 47 "_law_read_chain" (spLU w 0 (fun _ => True) (cnd w.ws (uny w.ws 20))) := ok_lchT T (uny_pays w.ws 20) (ok_lun T 20 0 rfl) (by omega)
/-- = truth ; -/
def trE (ws : List Str) (i : Nat) : Rs Bool := (xpt ws "=" i).bind fun _ j => (tru ws j).bind fun b k => (xpt ws ";" k).bind fun _ l => .ok b l
def spLTruth (w : Rw) : Sp := fun vs H Q _ => ∃ (u a : Addr) (i : Nat) (er : Option (Nat × Str)), vs = [.ref u, .ref a] ∧ LS w u a H i er ∧ posL w u a rB aY H (lf er (trE w.ws i)) Q
theorem pure_ltruth (vs : List V) (H : Hp) (Q : VK) (E : XK) (h : spLTruth w vs H Q E) : t_l_read_truth K E w { nx := fun _ H' => Q .non H', rt := Q } (start N_l_read_truth vs) H := by
  obtain ⟨u, a, i, er, rfl, ls, q⟩ := h
  refine ⟨_, rfl, _, rfl, u, a, i, er, _, rfl, by decide, by decide +kernel, ls, posL.bind (f := fun _ j => (tru w.ws j).bind fun b k => (xpt w.ws ";" k).bind fun _ l => .ok b l) q (fun _ _ _ _ => trivial) fun _ j er1 H1 _ f1 ls1 hv1 _ q1 => ?_⟩
  refine w_at rfl rfl ls1 ?_
  have rest : ∀ (H2 : Hp) (k : Nat) (er2 : Option (Nat × Str)), LS w u a H2 k er2 → posL w u a rB aY H2 (lf er2 ((xpt w.ws ";" k).bind fun _ l => .ok (decide (V.str (tk w.ws j) = V.str "true")) l)) Q →
      tSeq (tDrop (tCal (spLTake w) E (tCons (tVar 0) (tCons (tVar 1) (tCons (tC (.str ";")) tNil))))) (tRet (tOp rEq (tVar 2) (tC (.str "true")))) { nx := fun _ H' => Q .non H', rt := Q } [some (.ref u), some (.ref a), some (.str (tk w.ws j))] H2 := by
    intro H2 k er2 ls2 q2
    refine ⟨_, rfl, _, rfl, u, a, k, er2, _, rfl, by decide, by decide +kernel, ls2, q2.bind (fun _ _ _ _ => trivial) fun _ m er3 H3 _ f3 ls3 hv3 _ q3 => ?_⟩
    exact ⟨_, rfl, rfl, q3.fin ls3 (fun _ => rfl) trivial⟩
  have bad : ∀ e, er1 = some e ∨ (er1 = none ∧ e = (j, ("expected true or false" : Str)) ∧ tru w.ws j = .no j "expected true or false") →
      tSeq (tDrop (tCal (spLFault w) E (tCons (tVar 0) (tCons (tVar 1) (tCons (tC (.str "expected true or false")) tNil))))) (tSeq (tDrop (tCal (spLTake w) E (tCons (tVar 0) (tCons (tVar 1) (tCons (tC (.str ";")) tNil))))) (tRet (tOp rEq (tVar 2) (tC (.str "true"))))) { nx := fun _ H' => Q .non H', rt := Q } [some (.ref u), some (.ref a), some (.str (tk w.ws j))] H1 := by
    intro e he
    refine ⟨_, rfl, _, rfl, u, a, j, er1, _, rfl, ls1, fun H2 f2 ls2 => ?_⟩
    have q2 := q1.step f2
    rcases he with rfl | ⟨rfl, rfl, ht⟩
    · exact rest H2 j _ ls2 q2
    · have q3 : posL w u a rB aY H2 ((tru w.ws j).bind fun b k => (xpt w.ws ";" k).bind fun _ l => .ok b l) Q := q2
      rw [ht] at q3
      exact rest H2 j _ ls2 q3
  refine isN_at rfl ls1 ?_
  cases er1 with
  | some e => exact iteF (iteF (bad e (.inl rfl)))
  | none =>
    refine iteT ?_
    have q1 : posL w u a rB aY H1 ((tru w.ws j).bind fun b k => (xpt w.ws ";" k).bind fun _ l => .ok b l) Q := q1
    have good : ∀ b, tru w.ws j = .ok b (j + 1) → b = decide (V.str (tk w.ws j) = V.str "true") → j < w.ws.length → 
      tSeq (tAsg (tOp rAddI (tOp (rIxL K) (tVar 1) (tC (.int 0))) (tC (.int 1))) (gSub (tVar 1) (tC (.int 0)) rSetL)) (tSeq (tDrop (tCal (spLTake w) E (tCons (tVar 0) (tCons (tVar 1) (tCons (tC (.str ";")) tNil))))) (tRet (tOp rEq (tVar 2) (tC (.str "true"))))) { nx := fun _ H' => Q .non H', rt := Q } [some (.ref u), some (.ref a), some (.str (tk w.ws j))] H1 := by
      intro b hb e jl
      rw [hb, e] at q1
      exact inc_at rfl ls1 jl fun H2 f2 ls2 => rest H2 (j + 1) none ls2 (posL.step (R := (xpt w.ws ";" (j + 1)).bind fun _ l => .ok (decide (V.str (tk w.ws j) = V.str "true")) l) q1 f2)
    refine ⟨_, rfl, rfl, _, rfl, ?_⟩
    by_cases c : tk w.ws j = "true"
    · refine iteTb (str_eqT c) (iteT ?_)
      exact good true (by rw [tru, if_pos c]) (str_eqT c).symm (tk_lt w.ws (ne_e c))
    · refine iteFb (str_eqF c) ⟨_, rfl, rfl, _, rfl, ?_⟩
      by_cases c2 : tk w.ws j = "false"
      · refine iteTb (str_eqT c2) ?_
        exact good false (by rw [tru, if_neg c, if_pos c2]) (str_eqF c).symm (tk_lt w.ws (ne_e c2))
      · refine iteFb (str_eqF c2) ?_
        exact bad (j, "expected true or false") (.inr ⟨rfl, rfl, by rw [tru, if_neg c, if_neg c2]⟩)
theorem ok_ltruth (T : Txt K mg) : CalS R0 wd K mg base 3 "_law_read_truth" (spLTruth w) := by
  refine cal_s T.d_l_read_truth T.g_l_read_truth sc_l_read_truth (fun _ _ _ _ _ _ us hl => match us, hl with | [_, _], _ => rfl) (fun vs H Q E h => ?_) (fun cdv A outer s H vs Q E hr h => ⟨t_l_read_truth K E w, ?_, pure_ltruth vs H Q E h⟩)
  · obtain ⟨u, a, i, er, rfl, _⟩ := h
    rfl
  · exact (pss_cons (ps_expr (pc (ok_ltake T) hr (by omega) passE rfl (pa_cons (pv 0) (pa_cons (pv 1) (pa_cons pe_str pa_nil)))))
      (pss_cons (ps_set (i := 2) sc_l_read_truth.nd rfl (Or.inl rfl) (pe_ix ix_tup (pe_ix ix_list (pv 0) (pe_ix ix_list (pv 1) pe_int (fun _ _ => rfl)) (fun _ _ => rfl)) pe_int (fun _ _ => rfl)))
      (pss_cons (ps_if (PW.pt (pw_and (pt_cmpR op_isN (pe_ix ix_list (pv 1) pe_int (fun _ _ => rfl)) pe_non (nomark _)) (pw_and1 (PW.pt (pw_or (pt_cmpR op_eq (pv 2) pe_str (nomark _)) (pw_or1 (pt_cmpR op_eq (pv 2) pe_str (nomark _)))))))) (pss_one (ps_asg (pe_op op_add (pe_ix ix_list (pv 1) pe_int (fun _ _ => rfl)) pe_int) (pg_sub (pv 1) pe_int set_list))) (pss_one (ps_expr (pc (ok_lfault T) hr (by omega) passE rfl (pa_cons (pv 0) (pa_cons (pv 1) (pa_cons pe_str pa_nil)))))))
      (pss_cons (ps_expr (pc (ok_ltake T) hr (by omega) passE rfl (pa_cons (pv 0) (pa_cons (pv 1) (pa_cons pe_str pa_nil)))))
      (pss_one (ps_ret (pe_cmpR op_eq (pv 2) pe_str (nomark _))))))))
/-- behind break, continue, return -/
def spLJump (w : Rw) : Sp := fun vs H Q _ => ∃ (u a : Addr) (i : Nat), vs = [.ref u, .ref a, .str (tk w.ws i)] ∧ LS w u a H (i + 1) none ∧ posL w u a repS aY H (if tk w.ws i = "return" then fin w.ws i else jmp w.ws i) Q
instance : Inhabited Sm := ⟨.call ""⟩
theorem pure_ljump (vs : List V) (H : Hp) (Q : VK) (E : XK) (h : spLJump w vs H Q E) : t_l_read_jump K E w { nx := fun _ H' => Q .non H', rt := Q } (start N_l_read_jump vs) H := by
  obtain ⟨u, a, i, rfl, ls, q⟩ := h
  refine k_at rfl rfl ls fun t ht => ?_
  have rest : ∀ (H2 : Hp) (k : Nat) (er2 : Option (Nat × Str)) (v : V) (s : Sm) , LS w u a H2 k er2 → (er2 = none → ∃ d, s.data = .tuple [.str (tk w.ws i), d] ∧ ∀ H', TD H' v d) → posL w u a repS aY H2 (lf er2 ((xpt w.ws ";" k).bind fun _ l => .ok s l)) Q →
      tSeq (tDrop (tCal (spLTake w) E (tCons (tVar 0) (tCons (tVar 1) (tCons (tC (.str ";")) tNil))))) (tRet (tTup (tCons (tVar 2) (tCons (tVar 4) tNil)))) { nx := fun _ H' => Q .non H', rt := Q } [some (.ref u), some (.ref a), some (.str (tk w.ws i)), some (.ref t), some v] H2 := by
    intro H2 k er2 v s ls2 hs q2
    refine ⟨_, rfl, _, rfl, u, a, k, er2, _, rfl, by decide, by decide +kernel, ls2, q2.bind (fun _ _ _ _ => trivial) fun _ m er3 H3 _ f3 ls3 hv3 _ q3 => ?_⟩
    refine ⟨_, rfl, _, rfl, two_le, fun p hp => ?_⟩
    have fn : Fr [] H3 (upd H3 p (.tup [.str (tk w.ws i), v])) := Fr.new hp
    refine (q3.step (fn.mono (by simp))).fin (ls3.fr0 fn) (fun e => ?_) trivial
    obtain ⟨d, e1, e2⟩ := hs (hv3 e).1
    rw [repS, e1]
    exact TD.mk2 upd_same (.str _) (e2 _)
  have tail : ∀ (H0 : Hp) (x : Str), LS w u a H0 (i + 1) none → H0 t = some (.tup [.str (kdE w (i + 1)), .str (tk w.ws (i + 1)), .int (w.pl (i + 1) : Int)]) → (tk w.ws (i + 1) = ";" → posL w u a repS aY H0 ((xpt w.ws ";" (i + 1)).bind fun _ l => .ok (if tk w.ws i = "return" then .ret none else .jmp (tk w.ws i) none) l) Q) → (¬ tk w.ws (i + 1) = ";" → posL w u a repS aY H0 (.no (i + 1) x) Q) →
      tSeq (tIfS (tTest (tOp rNe (tOp (rIxT K) (tVar 3) (tC (.int 1))) (tC (.str ";")))) (tDrop (tCal (spLFault w) E (tCons (tVar 0) (tCons (tVar 1) (tCons (tC (.str x)) tNil))))) tNext)
        (tSeq (tDrop (tCal (spLTake w) E (tCons (tVar 0) (tCons (tVar 1) (tCons (tC (.str ";")) tNil))))) (tRet (tTup (tCons (tVar 2) (tCons (tVar 4) tNil))))) { nx := fun _ H' => Q .non H', rt := Q } [some (.ref u), some (.ref a), some (.str (tk w.ws i)), some (.ref t), some .non] H0 := by
    intro H0 x ls ht h1 h2
    refine y_ne rfl ht (fun c => ?_) fun c => ?_
    · refine ⟨_, rfl, _, rfl, u, a, i + 1, none, _, rfl, ls, fun H2 f2 ls2 => ?_⟩
      exact rest H2 (i + 1) _ .non default ls2 (fun e => by cases e) (posL.step (R := .no (i + 1) x) (α := Sm) (h2 c) f2)
    · refine rest H0 (i + 1) none .non _ ls (fun _ => ?_) (h1 c)
      by_cases r : tk w.ws i = "return"
      · rw [if_pos r, Sm.data, r]
        exact ⟨_, rfl, fun _ => .non⟩
      · rw [if_neg r, Sm.data]
        exact ⟨_, rfl, fun _ => .non⟩
  refine v_eq (k := 2) rfl (fun c => ?_) fun c => ?_
  · rw [if_pos c] at q
    unfold fin at q
    refine ⟨_, rfl, t, _, 0, _, rfl, rfl, sqT ht, at0, rfl, _, rfl, ?_⟩
    by_cases b : i + 1 < w.ws.length ∧ kd (cd (tk w.ws (i + 1))) = "number"
    · rw [if_pos b] at q
      refine iteTb (str_eqT (by rw [kdE, if_pos b.1]; exact b.2)) ?_
      have hw := w.ok _ (List.mem_of_getElem? (tk_get b.1))
      obtain ⟨n1, n2⟩ := num_text hw b.2
      refine ⟨_, rfl, t, _, 1, _, rfl, rfl, sqT ht, at1, _, _, rfl, n1, n2, ?_⟩
      refine inc_at rfl ls b.1 fun H2 f2 ls2 => ?_
      refine rest H2 (i + 2) none _ _ ls2 (fun _ => ⟨_, ?_, fun _ => .int _⟩) (q.step f2)
      rw [Sm.data, c]
      rfl
    · rw [if_neg b] at q
      refine iteFb (str_eqF fun z => b ?_) ?_
      · unfold kdE at z
        by_cases l : i + 1 < w.ws.length
        · rw [if_pos l] at z
          exact ⟨l, z⟩
        · rw [if_neg l] at z
          exact absurd z (by decide +kernel)
      · refine tail H _ ls ht (fun e => ?_) fun e => ?_
        · rw [if_pos e] at q
          rw [xpt, if_pos e, if_pos c]
          exact q
        · rw [if_neg e] at q
          exact q
  · rw [if_neg c] at q
    unfold jmp at q
    refine ⟨_, rfl, t, _, _, _, rfl, ht, fun H1 f1 => ?_⟩
    rw [isN_kd]
    refine ⟨_, rfl, ?_⟩
    have q1 := q.step (f1.mono (M' := [a]) (by simp))
    have ls1 := ls.fr0 f1
    have ht1 := f1.tup _ _ ht
    by_cases n : isN w.ws (i + 1) = true
    · rw [n]
      rw [if_pos n] at q1
      refine iteT ?_
      refine ⟨_, rfl, t, _, 1, _, rfl, rfl, sqT ht1, at1, ?_⟩
      refine inc_at rfl ls1 (isN_lt w.ws n) fun H2 f2 ls2 => ?_
      exact rest H2 (i + 2) none _ _ ls2 (fun _ => ⟨_, rfl, fun _ => .str _⟩) (q1.step f2)
    · rw [if_neg n] at q1
      rw [Bool.not_eq_true] at n
      rw [n]
      refine iteF ?_
      refine tail H1 _ ls1 ht1 (fun e => ?_) fun e => ?_
      · rw [if_pos e] at q1
        rw [xpt, if_pos e, if_neg c]
        exact q1
      · rw [if_neg e] at q1
        exact q1
theorem ok_ljump (T : Txt K mg) : CalS R0 wd K mg base 3 "_law_read_jump" (spLJump w) := by
  refine cal_s T.d_l_read_jump T.g_l_read_jump sc_l_read_jump (fun _ _ _ _ _ _ us hl => match us, hl with | [_, _, _], _ => rfl) (fun vs H Q E h => ?_) (fun cdv A outer s H vs Q E hr h => ⟨t_l_read_jump K E w, ?_, pure_ljump vs H Q E h⟩)
  · obtain ⟨u, a, i, rfl, _⟩ := h
    rfl
  · exact (pss_cons (ps_set (i := 3) sc_l_read_jump.nd rfl (Or.inl rfl) (pe_ix ix_list (pv 0) (pe_ix ix_list (pv 1) pe_int (fun _ _ => rfl)) (fun _ _ => rfl)))
      (pss_cons (ps_set (i := 4) sc_l_read_jump.nd rfl (Or.inl rfl) pe_non)
      (pss_cons (ps_if (pt_cmpR op_eq (pv 2) pe_str (nomark _)) (pss_one (ps_if (pt_cmpR op_eq (pe_ix ix_tup (pv 3) pe_int (fun _ _ => rfl)) pe_str (nomark _)) (pss_cons (ps_set (i := 4) sc_l_read_jump.nd rfl (Or.inl rfl) (pe_callTy call_int_str rfl T.f_int (by decide +kernel) (pa_cons (pe_ix ix_tup (pv 3) pe_int (fun _ _ => rfl)) pa_nil)))
      (pss_one (ps_asg (pe_op op_add (pe_ix ix_list (pv 1) pe_int (fun _ _ => rfl)) pe_int) (pg_sub (pv 1) pe_int set_list)))) (pss_one (ps_if (pt_cmpR op_ne (pe_ix ix_tup (pv 3) pe_int (fun _ _ => rfl)) pe_str (nomark _)) (pss_one (ps_expr (pc (ok_lfault T) hr (by omega) passE rfl (pa_cons (pv 0) (pa_cons (pv 1) (pa_cons pe_str pa_nil)))))) pss_nil)))) (pss_one (ps_if (pt_val (pc (ok_lnamed T) hr (by omega) passE rfl (pa_cons (pv 3) pa_nil))) (pss_cons (ps_set (i := 4) sc_l_read_jump.nd rfl (Or.inl rfl) (pe_ix ix_tup (pv 3) pe_int (fun _ _ => rfl)))
      (pss_one (ps_asg (pe_op op_add (pe_ix ix_list (pv 1) pe_int (fun _ _ => rfl)) pe_int) (pg_sub (pv 1) pe_int set_list)))) (pss_one (ps_if (pt_cmpR op_ne (pe_ix ix_tup (pv 3) pe_int (fun _ _ => rfl)) pe_str (nomark _)) (pss_one (ps_expr (pc (ok_lfault T) hr (by omega) passE rfl (pa_cons (pv 0) (pa_cons (pv 1) (pa_cons pe_str pa_nil)))))) pss_nil)))))
      (pss_cons (ps_expr (pc (ok_ltake T) hr (by omega) passE rfl (pa_cons (pv 0) (pa_cons (pv 1) (pa_cons pe_str pa_nil)))))
      (pss_one (ps_ret (pe_tup (pa_cons (pv 2) (pa_cons (pv 4) pa_nil)))))))))
end
end K18

/-! L6: the law's reader: statements -/
namespace K18
open PySem PySem.Spec L2
open PyProof.Rows hiding St
/-- a statement's place with R levels left; b: as a body -/
def sF (ws : List Str) : Nat → Bool → Nat → Rs (List Sm)
  | 0, _, i => .no i nested
  | R + 1, b, i => if tk ws i = "let" then (if b = true then .no i "let is not allowed here" else (dcl ws i).bind fun d j => .ok [d] j) else stm ws (R + 1) i
theorem item_sF (ws : List Str) (R : Nat) : item ws (fun _ => stm ws R) R = sF ws R false := by
  cases R <;> rfl
theorem item_sF2 (ws : List Str) (R : Nat) : item ws (stm ws) R = sF ws R false := by
  cases R <;> rfl
theorem bdy_sF (ws : List Str) (R i : Nat) : bdy ws (fun _ => stm ws R) R i = if tk ws i = "{" then blc ws (sF ws R false) i else sF ws R true i := by
  unfold bdy
  rw [item_sF]
  cases R <;> rfl
theorem sF_pays (ws : List Str) (R : Nat) : PayI ws (sF ws R false) := by
  rw [← item_sF2]
  exact item_pays ws fun _ _ => stm_pays ws R
def anyT (H : Hp) (v : V) : Prop := ∃ t xs, v = .ref t ∧ H t = some (.tup xs) ∧ xs.length ≤ 1
def spLBlk (w : Rw) (d R : Nat) : Sp := fun vs H Q _ => ∃ (u a : Addr) (i : Nat) (er : Option (Nat × Str)), vs = [.ref u, .ref a, .int (d : Int)] ∧ LS w u a H i er ∧ posL w u a repL aY H (lf er (blc w.ws (sF w.ws R false) i)) Q
def spLBdy (w : Rw) (d R : Nat) : Sp := fun vs H Q _ => ∃ (u a : Addr) (i : Nat) (er : Option (Nat × Str)), vs = [.ref u, .ref a, .int (d : Int)] ∧ LS w u a H i er ∧ posL w u a repL aY H (lf er (bdy w.ws (fun _ => stm w.ws R) R i)) Q
def spLStm (w : Rw) (d R : Nat) : Sp := fun vs H Q _ => ∃ (u a : Addr) (i : Nat) (er : Option (Nat × Str)) (b : Bool), vs = [.ref u, .ref a, .int (d : Int), .bl b] ∧ LS w u a H i er ∧ posL w u a repL anyT H (lf er (sF w.ws R b i)) Q
def spLLop (w : Rw) (d R : Nat) : Sp := fun vs H Q _ => ∃ (u a : Addr) (i : Nat) (l : Option Str), vs = [.ref u, .ref a, vOpt l, .str (tk w.ws i), .int (d : Int)] ∧ LS w u a H (i + 1) none ∧ posL w u a repS aY H (lop w.ws (fun _ => stm w.ws R) R l i) Q
def spLIf (w : Rw) (d R : Nat) : Sp := fun vs H Q _ => ∃ (u a : Addr) (i : Nat), vs = [.ref u, .ref a, .int (d : Int)] ∧ LS w u a H (i + 1) none ∧ posL w u a repS aY H (chc w.ws (fun _ => stm w.ws R) R i) Q
def spLNmd (w : Rw) (d R : Nat) : Sp := fun vs H Q _ => ∃ (u a : Addr) (i : Nat), vs = [.ref u, .ref a, .str (tk w.ws i), .int (d : Int)] ∧ LS w u a H (i + 1) none ∧ posL w u a repS aY H (nmd w.ws (fun _ => stm w.ws R) R i) Q
abbrev N_l_read_loop : List Str := ["_law_units", "_law_at", "_law_label", "_law_word", "_law_depth", "_law_condition_here"]
theorem sc_l_read_loop : FnScope N_l_read_loop ["_law_units", "_law_at", "_law_label", "_law_word", "_law_depth"] (defScope s_l_read_loop) := ⟨rfl, rfl, rfl, by decide +kernel, rfl, by decide +kernel, by decide +kernel⟩
def t_l_read_loop (K : PySem.W.Frag) (E : XK) (w : Rw) (spC spY : Sp) : TS :=
  (tSeq (tDrop (tCal (spLTake w) E (tCons (tVar 0) (tCons (tVar 1) (tCons (tC (.str "(")) tNil)))))
  (tSeq (tIfS (tTest (tOp rEq (tVar 3) (tC (.str "while")))) (tSeq (tAsg (tCal spC E (tCons (tVar 0) (tCons (tVar 1) (tCons (tC (.int 0)) tNil)))) (gName 5))
  (tSeq (tDrop (tCal (spLTake w) E (tCons (tVar 0) (tCons (tVar 1) (tCons (tC (.str ")")) tNil)))))
  (tRet (tTup (tCons (tC (.str "while")) (tCons (tVar 2) (tCons (tVar 5) (tCons (tCal spY E (tCons (tVar 0) (tCons (tVar 1) (tCons (tOp rAddI (tVar 4) (tC (.int 1))) tNil)))) tNil)))))))) tNext)
  (tSeq (tDrop (tCal (spLTake w) E (tCons (tVar 0) (tCons (tVar 1) (tCons (tC (.str ";")) tNil)))))
  (tSeq (tDrop (tCal (spLTake w) E (tCons (tVar 0) (tCons (tVar 1) (tCons (tC (.str ";")) tNil)))))
  (tSeq (tDrop (tCal (spLTake w) E (tCons (tVar 0) (tCons (tVar 1) (tCons (tC (.str ")")) tNil)))))
  (tRet (tTup (tCons (tC (.str "for")) (tCons (tVar 2) (tCons (tCal spY E (tCons (tVar 0) (tCons (tVar 1) (tCons (tOp rAddI (tVar 4) (tC (.int 1))) tNil)))) tNil))))))))))
abbrev N_l_read_if : List Str := ["_law_units", "_law_at", "_law_depth", "_law_condition_here", "_law_first", "_law_second"]
theorem sc_l_read_if : FnScope N_l_read_if ["_law_units", "_law_at", "_law_depth"] (defScope s_l_read_if) := ⟨rfl, rfl, rfl, by decide +kernel, rfl, by decide +kernel, by decide +kernel⟩
def t_l_read_if (K : PySem.W.Frag) (E : XK) (w : Rw) (spC spY : Sp) : TS :=
  (tSeq (tDrop (tCal (spLTake w) E (tCons (tVar 0) (tCons (tVar 1) (tCons (tC (.str "(")) tNil)))))
  (tSeq (tAsg (tCal spC E (tCons (tVar 0) (tCons (tVar 1) (tCons (tC (.int 0)) tNil)))) (gName 3))
  (tSeq (tDrop (tCal (spLTake w) E (tCons (tVar 0) (tCons (tVar 1) (tCons (tC (.str ")")) tNil)))))
  (tSeq (tAsg (tCal spY E (tCons (tVar 0) (tCons (tVar 1) (tCons (tOp rAddI (tVar 2) (tC (.int 1))) tNil)))) (gName 4))
  (tSeq (tAsg (tTup tNil) (gName 5))
  (tSeq (tIfS (tAnd (tTest (tOp rIsN (tOp (rIxL K) (tVar 1) (tC (.int 1))) (tC .non))) (tTest (tOp rEq (tOp (rIxT K) (tOp (rIxL K) (tVar 0) (tOp (rIxL K) (tVar 1) (tC (.int 0)))) (tC (.int 1))) (tC (.str "else"))))) (tSeq (tAsg (tOp rAddI (tOp (rIxL K) (tVar 1) (tC (.int 0))) (tC (.int 1))) (gSub (tVar 1) (tC (.int 0)) rSetL))
  (tAsg (tCal spY E (tCons (tVar 0) (tCons (tVar 1) (tCons (tOp rAddI (tVar 2) (tC (.int 1))) tNil)))) (gName 5))) tNext)
  (tRet (tTup (tCons (tC (.str "if")) (tCons (tVar 3) (tCons (tVar 4) (tCons (tVar 5) tNil))))))))))))
abbrev N_l_read_named : List Str := ["_law_units", "_law_at", "_law_word", "_law_depth", "_law_mark", "_law_loop"]
theorem sc_l_read_named : FnScope N_l_read_named ["_law_units", "_law_at", "_law_word", "_law_depth"] (defScope s_l_read_named) := ⟨rfl, rfl, rfl, by decide +kernel, rfl, by decide +kernel, by decide +kernel⟩
def t_l_read_named (K : PySem.W.Frag) (E : XK) (w : Rw) (spL : Sp) : TS :=
  (tSeq (tAsg (tOp (rIxT K) (tOp (rIxL K) (tVar 0) (tOp (rIxL K) (tVar 1) (tC (.int 0)))) (tC (.int 1))) (gName 4))
  (tSeq (tIfS (tTest (tOp rEq (tVar 4) (tC (.str "=")))) (tRet (tTup (tCons (tC (.str "set")) (tCons (tVar 2) (tCons (tCal (spLTruth w) E (tCons (tVar 0) (tCons (tVar 1) tNil))) tNil))))) tNext)
  (tSeq (tIfS (tTest (tOp rEq (tVar 4) (tC (.str "(")))) (tSeq (tAsg (tOp rAddI (tOp (rIxL K) (tVar 1) (tC (.int 0))) (tC (.int 1))) (gSub (tVar 1) (tC (.int 0)) rSetL))
  (tSeq (tDrop (tCal (spLTake w) E (tCons (tVar 0) (tCons (tVar 1) (tCons (tC (.str ")")) tNil)))))
  (tSeq (tDrop (tCal (spLTake w) E (tCons (tVar 0) (tCons (tVar 1) (tCons (tC (.str ";")) tNil)))))
  (tRet (tTup (tCons (tC (.str "call")) (tCons (tVar 2) tNil))))))) tNext)
  (tSeq (tIfS (tTest (tOp rNe (tVar 4) (tC (.str ":")))) (tSeq (tDrop (tCal (spLFault w) E (tCons (tVar 0) (tCons (tVar 1) (tCons (tC (.str "expected (, = or :")) tNil)))))
  (tRet (tTup tNil))) tNext)
  (tSeq (tAsg (tOp rAddI (tOp (rIxL K) (tVar 1) (tC (.int 0))) (tC (.int 1))) (gSub (tVar 1) (tC (.int 0)) rSetL))
  (tSeq (tAsg (tOp (rIxT K) (tOp (rIxL K) (tVar 0) (tOp (rIxL K) (tVar 1) (tC (.int 0)))) (tC (.int 1))) (gName 5))
  (tSeq (tIfS (tAnd (tTest (tOp rNe (tVar 5) (tC (.str "while")))) (tTest (tOp rNe (tVar 5) (tC (.str "for"))))) (tSeq (tDrop (tCal (spLFault w) E (tCons (tVar 0) (tCons (tVar 1) (tCons (tC (.str "expected while or for")) tNil)))))
  (tRet (tTup tNil))) tNext)
  (tSeq (tAsg (tOp rAddI (tOp (rIxL K) (tVar 1) (tC (.int 0))) (tC (.int 1))) (gSub (tVar 1) (tC (.int 0)) rSetL))
  (tRet (tCal spL E (tCons (tVar 0) (tCons (tVar 1) (tCons (tVar 2) (tCons (tVar 5) (tCons (tVar 3) tNil)))))))))))))))
abbrev N_l_read_block : List Str := ["_law_units", "_law_at", "_law_depth", "_law_rows", "_law_k"]
theorem sc_l_read_block : FnScope N_l_read_block ["_law_units", "_law_at", "_law_depth"] (defScope s_l_read_block) := ⟨rfl, rfl, rfl, by decide +kernel, rfl, by decide +kernel, by decide +kernel⟩
def t_l_read_block (K : PySem.W.Frag) (E : XK) (w : Rw) (spS : Sp) : TS :=
  (tSeq (tAsg (tTup tNil) (gName 3))
  (tSeq (tDrop (tCal (spLTake w) E (tCons (tVar 0) (tCons (tVar 1) (tCons (tC (.str "{")) tNil)))))
  (tSeq (tFor (iRng1 (tCons (tCB (rLenQ K) (tCons (tVar 0) tNil)) tNil)) (gName 4) (tSeq (tIfS (tOr (tTest (tOp rNotN (tOp (rIxL K) (tVar 1) (tC (.int 1))) (tC .non))) (tOr (tTest (tOp rEq (tOp (rIxT K) (tOp (rIxL K) (tVar 0) (tOp (rIxL K) (tVar 1) (tC (.int 0)))) (tC (.int 0))) (tC (.str "end")))) (tTest (tOp rEq (tOp (rIxT K) (tOp (rIxL K) (tVar 0) (tOp (rIxL K) (tVar 1) (tC (.int 0)))) (tC (.int 1))) (tC (.str "}")))))) tBreak tNext)
  (tAsg (tOp (rCatA K) (tVar 3) (tCal spS E (tCons (tVar 0) (tCons (tVar 1) (tCons (tVar 2) (tCons (tC (.bl false)) tNil)))))) (gName 3))))
  (tSeq (tDrop (tCal (spLTake w) E (tCons (tVar 0) (tCons (tVar 1) (tCons (tC (.str "}")) tNil)))))
  (tRet (tVar 3))))))
abbrev N_l_read_body : List Str := ["_law_units", "_law_at", "_law_depth"]
theorem sc_l_read_body : FnScope N_l_read_body ["_law_units", "_law_at", "_law_depth"] (defScope s_l_read_body) := ⟨rfl, rfl, rfl, by decide +kernel, rfl, by decide +kernel, by decide +kernel⟩
def t_l_read_body (K : PySem.W.Frag) (E : XK) (w : Rw) (spB spS : Sp) : TS :=
  (tSeq (tIfS (tAnd (tTest (tOp rIsN (tOp (rIxL K) (tVar 1) (tC (.int 1))) (tC .non))) (tTest (tOp rEq (tOp (rIxT K) (tOp (rIxL K) (tVar 0) (tOp (rIxL K) (tVar 1) (tC (.int 0)))) (tC (.int 1))) (tC (.str "{"))))) (tRet (tCal spB E (tCons (tVar 0) (tCons (tVar 1) (tCons (tVar 2) tNil))))) tNext)
  (tRet (tCal spS E (tCons (tVar 0) (tCons (tVar 1) (tCons (tVar 2) (tCons (tC (.bl true)) tNil)))))))
abbrev N_l_read_statement : List Str := ["_law_units", "_law_at", "_law_depth", "_law_body", "_law_word", "_law_first", "_law_name"]
theorem sc_l_read_statement : FnScope N_l_read_statement ["_law_units", "_law_at", "_law_depth", "_law_body"] (defScope s_l_read_statement) := ⟨rfl, rfl, rfl, by decide +kernel, rfl, by decide +kernel, by decide +kernel⟩
def t_l_read_statement (K : PySem.W.Frag) (E : XK) (w : Rw) (spB spN spI spL : Sp) : TS :=
  (tSeq (tAsg (tOp (rIxT K) (tOp (rIxL K) (tVar 0) (tOp (rIxL K) (tVar 1) (tC (.int 0)))) (tC (.int 1))) (gName 4))
  (tSeq (tIfS (tTest (tOp rNotN (tOp (rIxL K) (tVar 1) (tC (.int 1))) (tC .non))) (tRet (tTup tNil)) tNext)
  (tSeq (tIfS (tTest (tOp rGtI (tVar 2) (tC (.int 40)))) (tSeq (tDrop (tCal (spLFault w) E (tCons (tVar 0) (tCons (tVar 1) (tCons (tC (.str "nested too deeply")) tNil)))))
  (tRet (tTup tNil))) tNext)
  (tSeq (tIfS (tTest (tOp rEq (tVar 4) (tC (.str "{")))) (tRet (tTup (tCons (tTup (tCons (tC (.str "block")) (tCons (tCal spB E (tCons (tVar 0) (tCons (tVar 1) (tCons (tOp rAddI (tVar 2) (tC (.int 1))) tNil)))) tNil))) tNil))) tNext)
  (tSeq (tIfS (tAnd (tTest (tOp rEq (tVar 4) (tC (.str "let")))) (tB (tVar 3))) (tSeq (tDrop (tCal (spLFault w) E (tCons (tVar 0) (tCons (tVar 1) (tCons (tC (.str "let is not allowed here")) tNil)))))
  (tRet (tTup tNil))) tNext)
  (tSeq (tIfS (tB (tCal spLNamed E (tCons (tOp (rIxL K) (tVar 0) (tOp (rIxL K) (tVar 1) (tC (.int 0)))) tNil))) (tSeq (tAsg (tOp rAddI (tOp (rIxL K) (tVar 1) (tC (.int 0))) (tC (.int 1))) (gSub (tVar 1) (tC (.int 0)) rSetL))
  (tRet (tTup (tCons (tCal spN E (tCons (tVar 0) (tCons (tVar 1) (tCons (tVar 4) (tCons (tVar 2) tNil))))) tNil)))) tNext)
  (tSeq (tIfS (tTest (tOp (rIn K true) (tVar 4) (tLst (tCons (tC (.str ";")) (tCons (tC (.str "let")) (tCons (tC (.str "if")) (tCons (tC (.str "while")) (tCons (tC (.str "for")) (tCons (tC (.str "break")) (tCons (tC (.str "continue")) (tCons (tC (.str "return")) (tCons (tC (.str "try")) tNil)))))))))))) (tSeq (tDrop (tCal (spLFault w) E (tCons (tVar 0) (tCons (tVar 1) (tCons (tC (.str "expected a statement")) tNil)))))
  (tRet (tTup tNil))) tNext)
  (tSeq (tAsg (tOp rAddI (tOp (rIxL K) (tVar 1) (tC (.int 0))) (tC (.int 1))) (gSub (tVar 1) (tC (.int 0)) rSetL))
  (tSeq (tIfS (tTest (tOp rEq (tVar 4) (tC (.str ";")))) (tRet (tTup tNil)) tNext)
  (tSeq (tIfS (tTest (tOp rEq (tVar 4) (tC (.str "if")))) (tRet (tTup (tCons (tCal spI E (tCons (tVar 0) (tCons (tVar 1) (tCons (tVar 2) tNil)))) tNil))) tNext)
  (tSeq (tIfS (tOr (tTest (tOp rEq (tVar 4) (tC (.str "while")))) (tTest (tOp rEq (tVar 4) (tC (.str "for"))))) (tRet (tTup (tCons (tCal spL E (tCons (tVar 0) (tCons (tVar 1) (tCons (tC .non) (tCons (tVar 4) (tCons (tVar 2) tNil)))))) tNil))) tNext)
  (tSeq (tIfS (tTest (tOp rEq (tVar 4) (tC (.str "try")))) (tSeq (tAsg (tCal spB E (tCons (tVar 0) (tCons (tVar 1) (tCons (tOp rAddI (tVar 2) (tC (.int 1))) tNil)))) (gName 5))
  (tSeq (tDrop (tCal (spLTake w) E (tCons (tVar 0) (tCons (tVar 1) (tCons (tC (.str "finally")) tNil)))))
  (tRet (tTup (tCons (tTup (tCons (tC (.str "try")) (tCons (tVar 5) (tCons (tCal spB E (tCons (tVar 0) (tCons (tVar 1) (tCons (tOp rAddI (tVar 2) (tC (.int 1))) tNil)))) tNil)))) tNil))))) tNext)
  (tSeq (tIfS (tTest (tOp rNe (tVar 4) (tC (.str "let")))) (tRet (tTup (tCons (tCal (spLJump w) E (tCons (tVar 0) (tCons (tVar 1) (tCons (tVar 4) tNil)))) tNil))) tNext)
  (tSeq (tAsg (tOp (rIxT K) (tOp (rIxL K) (tVar 0) (tOp (rIxL K) (tVar 1) (tC (.int 0)))) (tC (.int 1))) (gName 6))
  (tSeq (tIfS (tB (tCal spLNamed E (tCons (tOp (rIxL K) (tVar 0) (tOp (rIxL K) (tVar 1) (tC (.int 0)))) tNil))) (tAsg (tOp rAddI (tOp (rIxL K) (tVar 1) (tC (.int 0))) (tC (.int 1))) (gSub (tVar 1) (tC (.int 0)) rSetL)) (tDrop (tCal (spLFault w) E (tCons (tVar 0) (tCons (tVar 1) (tCons (tC (.str "expected a name")) tNil))))))
  (tRet (tTup (tCons (tTup (tCons (tC (.str "let")) (tCons (tVar 6) (tCons (tCal (spLTruth w) E (tCons (tVar 0) (tCons (tVar 1) tNil))) tNil)))) tNil))))))))))))))))))
abbrev spLCnd (w : Rw) : Sp := spLU w 0 (fun _ => True) (cnd w.ws (uny w.ws 20))
section
variable {wd : World} {K : PySem.W.Frag} {mg : Str → Option Value} {base : Heap} {w : Rw}
theorem l_take {σ : L2.St} {H : Hp} {Q : VK} {E : XK} {u a : Addr} {i : Nat} {er : Option (Nat × Str)} {x : Str} (h0 : σ[0]? = some (some (.ref u))) (h1 : σ[1]? = some (some (.ref a))) (ls : LS w u a H i er) (q : posL w u a rU aY H (lf er (xpt w.ws x i)) Q)
    (hx : x.length ≤ 1000 := by decide) (hne : x ≠ "" := by decide +kernel) : tCal (spLTake w) E (tCons (tVar 0) (tCons (tVar 1) (tCons (tC (.str x)) tNil))) σ H Q :=
  ⟨_, h0, _, h1, u, a, i, er, x, rfl, hx, hne, ls, q⟩
theorem pure_llop {d R : Nat} (vs : List V) (H : Hp) (Q : VK) (E : XK) (h : spLLop w d R vs H Q E) : t_l_read_loop K E w (spLCnd w) (spLBdy w (d + 1) R) { nx := fun _ H' => Q .non H', rt := Q } (start N_l_read_loop vs) H := by
  obtain ⟨u, a, i, l, rfl, ls, q⟩ := h
  unfold lop at q
  by_cases c : tk w.ws i = "while"
  · rw [if_pos c] at q
    refine l_take (er := none) rfl rfl ls (posL.bind (er := none) q (fun _ _ _ _ => trivial) fun _ j er1 H1 _ f1 ls1 hv1 _ q1 => ?_)
    refine v_eq (k := 3) rfl (fun _ => ?_) fun z => absurd c z
    refine ⟨_, rfl, _, rfl, u, a, j, er1, rfl, trivial, ls1, q1.bind (fun _ _ _ _ => trivial) fun x k er2 H2 v f2 ls2 hv2 _ q2 => ?_⟩
    refine l_take rfl rfl ls2 (q2.bind (fun _ _ _ _ => trivial) fun _ m er3 H3 _ f3 ls3 hv3 _ q3 => ?_)
    refine ⟨_, rfl, _, rfl, _, rfl, _, rfl, _, rfl, _, _, rfl, rfl, u, a, m, er3, rfl, ls3, q3.bind (fun _ _ _ _ => trivial) fun b o er4 H4 z f4 ls4 hv4 _ q4 => ⟨four_le, fun p hp => ?_⟩⟩
    have fn : Fr [] H4 (upd H4 p (.tup [.str "while", vOpt l, v, z])) := Fr.new hp
    refine (q4.step (fn.mono (by simp))).fin (ls4.fr0 fn) (fun e => ?_) trivial
    have e3 := (hv4 e).1
    have e2 := (hv3 e3).1
    rw [repS, Sm.data]
    exact TD.mk4 upd_same (.str _) (.opt l) (TD.fr (TD.fr (TD.fr (hv2 e2).2.2 f3) f4) fn) (TD.fr (hv4 e).2.2 fn)
  · rw [if_neg c] at q
    refine l_take (er := none) rfl rfl ls (posL.bind (er := none) q (fun _ _ _ _ => trivial) fun _ j er1 H1 _ f1 ls1 hv1 _ q1 => ?_)
    refine v_eq (k := 3) rfl (fun z => absurd z c) fun _ => ?_
    refine l_take rfl rfl ls1 (q1.bind (fun _ _ _ _ => trivial) fun _ k er2 H2 _ f2 ls2 hv2 _ q2 => ?_)
    refine l_take rfl rfl ls2 (q2.bind (fun _ _ _ _ => trivial) fun _ m er3 H3 _ f3 ls3 hv3 _ q3 => ?_)
    refine l_take rfl rfl ls3 (q3.bind (fun _ _ _ _ => trivial) fun _ o er4 H4 _ f4 ls4 hv4 _ q4 => ?_)
    refine ⟨_, rfl, _, rfl, _, rfl, _, rfl, _, _, rfl, rfl, u, a, o, er4, rfl, ls4, q4.bind (fun _ _ _ _ => trivial) fun b r er5 H5 z f5 ls5 hv5 _ q5 => ⟨three_le, fun p hp => ?_⟩⟩
    have fn : Fr [] H5 (upd H5 p (.tup [.str "for", vOpt l, z])) := Fr.new hp
    refine (q5.step (fn.mono (by simp))).fin (ls5.fr0 fn) (fun e => ?_) trivial
    rw [repS, Sm.data]
    exact TD.mk3 upd_same (.str _) (.opt l) (TD.fr (hv5 e).2.2 fn)
theorem ok_llop (T : Txt K mg) {d R k : Nat} (GY : CalS R0 wd K mg base k "_law_read_body" (spLBdy w (d + 1) R)) (hk : 47 ≤ k) : CalS R0 wd K mg base (k + 1) "_law_read_loop" (spLLop w d R) := by
  have GC := ok_lcond (wd := wd) (base := base) (w := w) T
  refine cal_s T.d_l_read_loop T.g_l_read_loop sc_l_read_loop (fun _ _ _ _ _ _ us hl => match us, hl with | [_, _, _, _, _], _ => rfl) (fun vs H Q E h => ?_) (fun cdv A outer s H vs Q E hr h => ⟨t_l_read_loop K E w (spLCnd w) (spLBdy w (d + 1) R), ?_, pure_llop vs H Q E h⟩)
  · obtain ⟨u, a, i, l, rfl, _⟩ := h
    rfl
  · exact (pss_cons (ps_expr (pc (ok_ltake T) hr (by omega) passE rfl (pa_cons (pv 0) (pa_cons (pv 1) (pa_cons pe_str pa_nil)))))
      (pss_cons (ps_if (pt_cmpR op_eq (pv 3) pe_str (nomark _)) (pss_cons (ps_set (i := 5) sc_l_read_loop.nd rfl (Or.inl rfl) (pc GC hr (by omega) passE rfl (pa_cons (pv 0) (pa_cons (pv 1) (pa_cons pe_int pa_nil)))))
      (pss_cons (ps_expr (pc (ok_ltake T) hr (by omega) passE rfl (pa_cons (pv 0) (pa_cons (pv 1) (pa_cons pe_str pa_nil)))))
      (pss_one (ps_ret (pe_tup (pa_cons pe_str (pa_cons (pv 2) (pa_cons (pv 5) (pa_cons (pc GY hr (by omega) passE rfl (pa_cons (pv 0) (pa_cons (pv 1) (pa_cons (pe_op op_add (pv 4) pe_int) pa_nil)))) pa_nil))))))))) pss_nil)
      (pss_cons (ps_expr (pc (ok_ltake T) hr (by omega) passE rfl (pa_cons (pv 0) (pa_cons (pv 1) (pa_cons pe_str pa_nil)))))
      (pss_cons (ps_expr (pc (ok_ltake T) hr (by omega) passE rfl (pa_cons (pv 0) (pa_cons (pv 1) (pa_cons pe_str pa_nil)))))
      (pss_cons (ps_expr (pc (ok_ltake T) hr (by omega) passE rfl (pa_cons (pv 0) (pa_cons (pv 1) (pa_cons pe_str pa_nil)))))
      (pss_one (ps_ret (pe_tup (pa_cons pe_str (pa_cons (pv 2) (pa_cons (pc GY hr (by omega) passE rfl (pa_cons (pv 0) (pa_cons (pv 1) (pa_cons (pe_op op_add (pv 4) pe_int) pa_nil)))) pa_nil)))))))))))
theorem pure_lif {d R : Nat} (vs : List V) (H : Hp) (Q : VK) (E : XK) (h : spLIf w d R vs H Q E) : t_l_read_if K E w (spLCnd w) (spLBdy w (d + 1) R) { nx := fun _ H' => Q .non H', rt := Q } (start N_l_read_if vs) H := by
  obtain ⟨u, a, i, rfl, ls, q⟩ := h
  unfold chc at q
  refine l_take (er := none) rfl rfl ls (posL.bind (er := none) q (fun _ _ _ _ => trivial) fun _ j er1 H1 _ f1 ls1 hv1 _ q1 => ?_)
  refine ⟨_, rfl, _, rfl, u, a, j, er1, rfl, trivial, ls1, q1.bind (fun _ _ _ _ => trivial) fun x k er2 H2 v f2 ls2 hv2 _ q2 => ?_⟩
  refine l_take rfl rfl ls2 (q2.bind (fun _ _ _ _ => trivial) fun _ m er3 H3 _ f3 ls3 hv3 _ q3 => ?_)
  refine ⟨_, rfl, _, rfl, _, rfl, _, _, rfl, rfl, u, a, m, er3, rfl, ls3, q3.bind (fun _ _ _ _ => trivial) fun b o er4 H4 z f4 ls4 hv4 _ q4 => ?_⟩
  refine ⟨Nat.zero_le _, fun e0 he0 => ?_⟩
  have f5 : Fr [] H4 (upd H4 e0 (.tup [])) := Fr.new he0
  have ls5 := ls4.fr0 f5
  have q5 := q4.step (f5.mono (M' := [a]) (by simp))
  have fin : ∀ (H6 : Hp) (r : Nat) (er6 : Option (Nat × Str)) (y : V) (g : List Sm), LS w u a H6 r er6 → (er6 = none → er4 = none ∧ Fr [a] H4 H6 ∧ repL H6 y g) → posL w u a repS aY H6 (lf er6 (.ok (.ite x b g) r)) Q →
      tRet (tTup (tCons (tC (.str "if")) (tCons (tVar 3) (tCons (tVar 4) (tCons (tVar 5) tNil))))) { nx := fun _ H' => Q .non H', rt := Q } [some (.ref u), some (.ref a), some (.int (d : Int)), some v, some z, some y] H6 := by
    intro H6 r er6 y g ls6 hg q6
    refine ⟨_, rfl, _, rfl, _, rfl, four_le, fun p hp => ?_⟩
    have fn : Fr [] H6 (upd H6 p (.tup [.str "if", v, z, y])) := Fr.new hp
    refine (q6.step (fn.mono (by simp))).fin (ls6.fr0 fn) (fun e => ?_) trivial
    obtain ⟨e4, f46, hy⟩ := hg e
    have e3 := (hv4 e4).1
    have e2 := (hv3 e3).1
    rw [repS, Sm.data]
    exact TD.mk4 upd_same (.str _) (TD.fr (TD.fr (TD.fr (TD.fr (hv2 e2).2.2 f3) f4) f46) fn) (TD.fr (TD.fr (hv4 e4).2.2 f46) fn) (TD.fr hy fn)
  refine isN_at rfl ls5 ?_
  cases er4 with
  | some e => exact iteF (iteF (fin _ o (some e) (.ref e0) [] ls5 (fun z => by cases z) q5))
  | none =>
    have q6 : posL w u a repS aY (upd H4 e0 (.tup [])) (if tk w.ws o = "else" then (bdy w.ws (fun _ => stm w.ws R) R (o + 1)).bind fun g q => .ok (.ite x b g) q else .ok (.ite x b []) o) Q := q5
    refine iteT (w_at rfl rfl ls5 ⟨rfl, _, rfl, ?_⟩)
    by_cases c : tk w.ws o = "else"
    · rw [if_pos c] at q6
      refine iteTb (str_eqT c) ?_
      refine inc_at rfl ls5 (tk_lt w.ws (ne_e c)) fun H6 f6 ls6 => ?_
      refine ⟨_, rfl, _, rfl, _, rfl, _, _, rfl, rfl, u, a, o + 1, none, rfl, ls6, posL.bind (er := none) (q6.step f6) (fun _ _ _ _ => trivial) fun g r er7 H7 y f7 ls7 hv7 _ q7 => ?_⟩
      exact fin H7 r er7 y g ls7 (fun e => ⟨rfl, ((f5.mono (by simp)).trans f6).trans f7, (hv7 e).2.2⟩) q7
    · rw [if_neg c] at q6
      refine iteFb (str_eqF c) ?_
      exact fin _ o none (.ref e0) [] ls5 (fun _ => ⟨rfl, f5.mono (by simp), by rw [repL, Sm.datas]; exact .tup upd_same .nil⟩) q6
theorem ok_lif (T : Txt K mg) {d R k : Nat} (GY : CalS R0 wd K mg base k "_law_read_body" (spLBdy w (d + 1) R)) (hk : 47 ≤ k) : CalS R0 wd K mg base (k + 1) "_law_read_if" (spLIf w d R) := by
  have GC := ok_lcond (wd := wd) (base := base) (w := w) T
  refine cal_s T.d_l_read_if T.g_l_read_if sc_l_read_if (fun _ _ _ _ _ _ us hl => match us, hl with | [_, _, _], _ => rfl) (fun vs H Q E h => ?_) (fun cdv A outer s H vs Q E hr h => ⟨t_l_read_if K E w (spLCnd w) (spLBdy w (d + 1) R), ?_, pure_lif vs H Q E h⟩)
  · obtain ⟨u, a, i, rfl, _⟩ := h
    rfl
  · exact (pss_cons (ps_expr (pc (ok_ltake T) hr (by omega) passE rfl (pa_cons (pv 0) (pa_cons (pv 1) (pa_cons pe_str pa_nil)))))
      (pss_cons (ps_set (i := 3) sc_l_read_if.nd rfl (Or.inl rfl) (pc GC hr (by omega) passE rfl (pa_cons (pv 0) (pa_cons (pv 1) (pa_cons pe_int pa_nil)))))
      (pss_cons (ps_expr (pc (ok_ltake T) hr (by omega) passE rfl (pa_cons (pv 0) (pa_cons (pv 1) (pa_cons pe_str pa_nil)))))
      (pss_cons (ps_set (i := 4) sc_l_read_if.nd rfl (Or.inl rfl) (pc GY hr (by omega) passE rfl (pa_cons (pv 0) (pa_cons (pv 1) (pa_cons (pe_op op_add (pv 2) pe_int) pa_nil)))))
      (pss_cons (ps_set (i := 5) sc_l_read_if.nd rfl (Or.inl rfl) (pe_tup pa_nil))
      (pss_cons (ps_if (PW.pt (pw_and (pt_cmpR op_isN (pe_ix ix_list (pv 1) pe_int (fun _ _ => rfl)) pe_non (nomark _)) (pw_and1 (pt_cmpR op_eq (pe_ix ix_tup (pe_ix ix_list (pv 0) (pe_ix ix_list (pv 1) pe_int (fun _ _ => rfl)) (fun _ _ => rfl)) pe_int (fun _ _ => rfl)) pe_str (nomark _))))) (pss_cons (ps_asg (pe_op op_add (pe_ix ix_list (pv 1) pe_int (fun _ _ => rfl)) pe_int) (pg_sub (pv 1) pe_int set_list))
      (pss_one (ps_set (i := 5) sc_l_read_if.nd rfl (Or.inl rfl) (pc GY hr (by omega) passE rfl (pa_cons (pv 0) (pa_cons (pv 1) (pa_cons (pe_op op_add (pv 2) pe_int) pa_nil))))))) pss_nil)
      (pss_one (ps_ret (pe_tup (pa_cons pe_str (pa_cons (pv 3) (pa_cons (pv 4) (pa_cons (pv 5) pa_nil)))))))))))))
theorem pure_lnmd {d R : Nat} (vs : List V) (H : Hp) (Q : VK) (E : XK) (h : spLNmd w d R vs H Q E) : t_l_read_named K E w (spLLop w d R) { nx := fun _ H' => Q .non H', rt := Q } (start N_l_read_named vs) H := by
  obtain ⟨u, a, i, rfl, ls, q⟩ := h
  unfold nmd at q
  refine w_at rfl rfl ls ?_
  refine v_eq (k := 4) rfl (fun c => ?_) fun c => ?_
  · rw [if_neg (by rw [c]; decide +kernel), if_pos c] at q
    refine ⟨_, rfl, _, rfl, _, rfl, u, a, i + 1, none, rfl, ls, ?_⟩
    have e : trE w.ws (i + 1) = (tru w.ws (i + 2)).bind fun b k => (xpt w.ws ";" k).bind fun _ l => .ok b l := by
      unfold trE
      rw [xpt, if_pos c]
      rfl
    have e2 : ((tru w.ws (i + 2)).bind fun b j => (xpt w.ws ";" j).bind fun _ k => .ok (.set (tk w.ws i) b) k) = (trE w.ws (i + 1)).bind fun b k => .ok (Sm.set (tk w.ws i) b) k := by
      rw [e, bassoc]
      congr 1
      funext b k
      rw [bassoc]
      rfl
    rw [e2] at q
    refine posL.bind (er := none) q (fun _ _ _ _ => trivial) fun b k er1 H1 v f1 ls1 hv1 _ q1 => ⟨three_le, fun p hp => ?_⟩
    have fn : Fr [] H1 (upd H1 p (.tup [.str "set", .str (tk w.ws i), v])) := Fr.new hp
    refine (q1.step (fn.mono (by simp))).fin (ls1.fr0 fn) (fun e => ?_) trivial
    rw [repS, Sm.data]
    have hb : v = .bl b := (hv1 e).2.2
    rw [hb] at fn ⊢
    exact TD.mk3 upd_same (.str _) (.str _) (.bl _)
  · refine v_eq (k := 4) rfl (fun c2 => ?_) fun c2 => ?_
    · rw [if_pos c2] at q
      refine inc_at rfl ls (tk_lt w.ws (ne_e c2)) fun H2 f2 ls2 => ?_
      refine l_take rfl rfl ls2 (posL.bind (er := none) (q.step f2) (fun _ _ _ _ => trivial) fun _ j er1 H3 _ f3 ls3 hv3 _ q3 => ?_)
      refine l_take rfl rfl ls3 (q3.bind (fun _ _ _ _ => trivial) fun _ k er4 H4 _ f4 ls4 hv4 _ q4 => ?_)
      refine ⟨_, rfl, two_le, fun p hp => ?_⟩
      have fn : Fr [] H4 (upd H4 p (.tup [.str "call", .str (tk w.ws i)])) := Fr.new hp
      refine (q4.step (fn.mono (by simp))).fin (ls4.fr0 fn) (fun e => ?_) trivial
      rw [repS, Sm.data]
      exact TD.mk2 upd_same (.str _) (.str _)
    · rw [if_neg c2, if_neg c] at q
      have emp : ∀ (H2 : Hp) (j : Nat) (e : Nat × Str), LS w u a H2 j (some e) → posL w u a repS aY H2 (.no e.1 e.2 : Rs Sm) Q → 0 ≤ sizeLine ∧ ∀ p, H2 p = none → Q (.ref p) (upd H2 p (.tup [])) := fun H2 j e ls2 q2 => ⟨Nat.zero_le _, fun p hp => by
        have fn : Fr [] H2 (upd H2 p (.tup [])) := Fr.new hp
        exact q2 _ _ j (fn.mono (by simp)) (ls2.fr0 fn) trivial⟩
      refine v_ne (k := 4) rfl (fun c3 => ?_) fun c3 => ?_
      · rw [if_neg c3] at q
        refine ⟨_, rfl, _, rfl, u, a, i + 1, none, _, rfl, ls, fun H2 f2 ls2 => ?_⟩
        exact emp H2 (i + 1) _ ls2 (posL.step (R := .no (i + 1) "expected (, = or :") (α := Sm) q f2)
      · rw [if_pos c3] at q
        refine inc_at rfl ls (tk_lt w.ws (ne_e c3)) fun H2 f2 ls2 => ?_
        have q2 := q.step f2
        refine w_at rfl rfl ls2 ?_
        have go : (tk w.ws (i + 2) = "while" ∨ tk w.ws (i + 2) = "for") → tSeq (tAsg (tOp rAddI (tOp (rIxL K) (tVar 1) (tC (.int 0))) (tC (.int 1))) (gSub (tVar 1) (tC (.int 0)) rSetL)) (tRet (tCal (spLLop w d R) E (tCons (tVar 0) (tCons (tVar 1) (tCons (tVar 2) (tCons (tVar 5) (tCons (tVar 3) tNil))))))) { nx := fun _ H' => Q .non H', rt := Q }
            [some (.ref u), some (.ref a), some (.str (tk w.ws i)), some (.int (d : Int)), some (.str (tk w.ws (i + 1))), some (.str (tk w.ws (i + 2)))] H2 := by
          intro z
          rw [if_pos z] at q2
          refine inc_at rfl ls2 (tk_lt w.ws (by rcases z with z | z <;> exact ne_e z)) fun H3 f3 ls3 => ?_
          exact ⟨_, rfl, _, rfl, _, rfl, _, rfl, _, rfl, u, a, i + 2, some (tk w.ws i), rfl, ls3, q2.step f3⟩
        refine ⟨_, rfl, rfl, _, rfl, ?_⟩
        by_cases c4 : tk w.ws (i + 2) = "while"
        · exact iteFb (str_neF c4) (iteF (go (.inl c4)))
        · refine iteTb (str_neT c4) ⟨_, rfl, rfl, _, rfl, ?_⟩
          by_cases c5 : tk w.ws (i + 2) = "for"
          · exact iteFb (str_neF c5) (go (.inr c5))
          · rw [if_neg (fun z => z.elim c4 c5)] at q2
            refine iteTb (str_neT c5) ⟨_, rfl, _, rfl, u, a, i + 2, none, _, rfl, ls2, fun H3 f3 ls3 => ?_⟩
            exact emp H3 (i + 2) _ ls3 (posL.step (R := .no (i + 2) "expected while or for") (α := Sm) q2 f3)
theorem ok_lnmd (T : Txt K mg) {d R k : Nat} (GL : CalS R0 wd K mg base k "_law_read_loop" (spLLop w d R)) (hk : 4 ≤ k) : CalS R0 wd K mg base (k + 1) "_law_read_named" (spLNmd w d R) := by
  refine cal_s T.d_l_read_named T.g_l_read_named sc_l_read_named (fun _ _ _ _ _ _ us hl => match us, hl with | [_, _, _, _], _ => rfl) (fun vs H Q E h => ?_) (fun cdv A outer s H vs Q E hr h => ⟨t_l_read_named K E w (spLLop w d R), ?_, pure_lnmd vs H Q E h⟩)
  · obtain ⟨u, a, i, rfl, _⟩ := h
    rfl
  · exact (pss_cons (ps_set (i := 4) sc_l_read_named.nd rfl (Or.inl rfl) (pe_ix ix_tup (pe_ix ix_list (pv 0) (pe_ix ix_list (pv 1) pe_int (fun _ _ => rfl)) (fun _ _ => rfl)) pe_int (fun _ _ => rfl)))
      (pss_cons (ps_if (pt_cmpR op_eq (pv 4) pe_str (nomark _)) (pss_one (ps_ret (pe_tup (pa_cons pe_str (pa_cons (pv 2) (pa_cons (pc (ok_ltruth T) hr (by omega) passE rfl (pa_cons (pv 0) (pa_cons (pv 1) pa_nil))) pa_nil)))))) pss_nil)
      (pss_cons (ps_if (pt_cmpR op_eq (pv 4) pe_str (nomark _)) (pss_cons (ps_asg (pe_op op_add (pe_ix ix_list (pv 1) pe_int (fun _ _ => rfl)) pe_int) (pg_sub (pv 1) pe_int set_list))
      (pss_cons (ps_expr (pc (ok_ltake T) hr (by omega) passE rfl (pa_cons (pv 0) (pa_cons (pv 1) (pa_cons pe_str pa_nil)))))
      (pss_cons (ps_expr (pc (ok_ltake T) hr (by omega) passE rfl (pa_cons (pv 0) (pa_cons (pv 1) (pa_cons pe_str pa_nil)))))
      (pss_one (ps_ret (pe_tup (pa_cons pe_str (pa_cons (pv 2) pa_nil)))))))) pss_nil)
      (pss_cons (ps_if (pt_cmpR op_ne (pv 4) pe_str (nomark _)) (pss_cons (ps_expr (pc (ok_lfault T) hr (by omega) passE rfl (pa_cons (pv 0) (pa_cons (pv 1) (pa_cons pe_str pa_nil)))))
      (pss_one (ps_ret (pe_tup pa_nil)))) pss_nil)
      (pss_cons (ps_asg (pe_op op_add (pe_ix ix_list (pv 1) pe_int (fun _ _ => rfl)) pe_int) (pg_sub (pv 1) pe_int set_list))
      (pss_cons (ps_set (i := 5) sc_l_read_named.nd rfl (Or.inl rfl) (pe_ix ix_tup (pe_ix ix_list (pv 0) (pe_ix ix_list (pv 1) pe_int (fun _ _ => rfl)) (fun _ _ => rfl)) pe_int (fun _ _ => rfl)))
      (pss_cons (ps_if (PW.pt (pw_and (pt_cmpR op_ne (pv 5) pe_str (nomark _)) (pw_and1 (pt_cmpR op_ne (pv 5) pe_str (nomark _))))) (pss_cons (ps_expr (pc (ok_lfault T) hr (by omega) passE rfl (pa_cons (pv 0) (pa_cons (pv 1) (pa_cons pe_str pa_nil)))))
      (pss_one (ps_ret (pe_tup pa_nil)))) pss_nil)
      (pss_cons (ps_asg (pe_op op_add (pe_ix ix_list (pv 1) pe_int (fun _ _ => rfl)) pe_int) (pg_sub (pv 1) pe_int set_list))
      (pss_one (ps_ret (pc GL hr (by omega) passE rfl (pa_cons (pv 0) (pa_cons (pv 1) (pa_cons (pv 2) (pa_cons (pv 5) (pa_cons (pv 3) pa_nil))))))))))))))))
end
end K18

/-! L7: the law's reader: blocks, all statements -/
namespace K18
open PySem PySem.Spec L2
open PyProof.Rows hiding St

theorem kdE_end (w : Rw) {i : Nat} (h : i < w.ws.length) : ¬ kdE w i = "end" := by
  rw [kdE, if_pos h]
  have z : ∀ l, ¬ kd l = "end" := by
    intro l
    cases l with
    | nil =>
      rw [kd]
      decide +kernel
    | cons c r =>
      rw [kd]
      split
      · decide +kernel
      · split <;> decide +kernel
  exact z _
theorem tk_ne (w : Rw) {i : Nat} (h : i < w.ws.length) : tk w.ws i ≠ "" := fun z => by
  obtain ⟨c, r, e, _⟩ := (w.ok _ (List.mem_of_getElem? (tk_get h))).head
  rw [z] at e
  exact absurd e (by intro y; cases y)
theorem isN_ne {ws : List Str} {i : Nat} {x : Str} (h : isN ws i = true) (hx : isNm x = false := by decide +kernel) : ¬ tk ws i = x := fun z => by
  unfold isN at h
  rw [z, hx, Bool.and_false] at h
  cases h
theorem posL.bindA {w : Rw} {u a : Addr} {α β : Type} {rep : Hp → V → α → Prop} {any : Hp → V → Prop} {H : Hp} {Q Q1 : VK} {er : Option (Nat × Str)} [Inhabited β] {repB : Hp → V → β → Prop} {anyB : Hp → V → Prop} {A : Rs β} {f : β → Nat → Rs α} (h : posL w u a rep any H (lf er (A.bind f)) Q) (ha : ∀ H v x j, A = .ok x j → repB H v x → anyB H v)
    (k : ∀ x j er' H' v, Fr [a] H H' → LS w u a H' j er' → (er' = none → er = none ∧ A = .ok x j ∧ repB H' v x) → anyB H' v → posL w u a rep any H' (lf er' (f x j)) Q → Q1 v H') : posL w u a repB anyB H (lf er A) Q1 := by
  cases er with
  | none =>
    cases A with
    | ok x j => exact fun H' v fr ls rp => k x j none H' v fr ls (fun _ => ⟨rfl, rfl, rp⟩) (ha _ _ _ _ rfl rp) (posL.step (R := f x j) h fr)
    | no kk s => exact fun H' v j fr ls an => k default j (some (kk, s)) H' v fr ls (fun z => by cases z) an (posL.step (R := .no kk s) (α := α) h fr)
  | some e => exact fun H' v j fr ls an => k default j (some e) H' v fr ls (fun z => by cases z) an (posL.step (R := .no e.1 e.2) (α := α) h fr)
section
variable {wd : World} {K : PySem.W.Frag} {mg : Str → Option Value} {base : Heap} {w : Rw}
theorem pure_lblk {d R : Nat} (vs : List V) (H : Hp) (Q : VK) (E : XK) (h : spLBlk w d R vs H Q E) : t_l_read_block K E w (spLStm w d R) { nx := fun _ H' => Q .non H', rt := Q } (start N_l_read_block vs) H := by
  obtain ⟨u, a, i, er, rfl, ls, q⟩ := h
  have sz := w.sz
  have hpay := sF_pays w.ws R
  unfold blc at q
  refine ⟨Nat.zero_le _, fun r0 hr0 => ?_⟩
  have f0 : Fr [] H (upd H r0 (.tup [])) := Fr.new hr0
  refine l_take rfl rfl (ls.fr0 f0) ((q.step (f0.mono (by simp))).bind (fun _ _ _ _ => trivial) fun _ j er1 H1 _ f1 ls1 hv1 _ q1 => ?_)
  obtain ⟨us, te, ev, hu1, hu2, _⟩ := id ls1
  have ul : (us ++ [V.ref te]).length = w.ws.length + 1 := by
    have := hu2.len
    rw [List.length_append, List.length_singleton]
    omega
  refine ⟨_, rfl, u, us ++ [.ref te], rfl, .inl (sqL hu1), _, rfl, by omega, by omega, ?_⟩
  rw [ul, Int.toNat_natCast]
  have fin : ∀ (H' : Hp) (j : Nat) (er : Option (Nat × Str)) (rv : Addr) (xs : List V) (rows : List Sm) (p4 : Option V), H' rv = some (.tup xs) → LS w u a H' j er → (er = none → TDs H' xs (Sm.datas rows)) → posL w u a repL aY H' (lf er ((xpt w.ws "}" j).bind fun _ m => .ok rows m)) Q →
      tSeq (tDrop (tCal (spLTake w) E (tCons (tVar 0) (tCons (tVar 1) (tCons (tC (.str "}")) tNil))))) (tRet (tVar 3)) { nx := fun _ H' => Q .non H', rt := Q } [some (.ref u), some (.ref a), some (.int (d : Int)), some (.ref rv), p4] H' := by
    intro H' j er rv xs rows p4 hrv ls hx q
    refine l_take rfl rfl ls (q.bind (fun _ _ _ _ => trivial) fun _ m er2 H2 _ f2 ls2 hv2 _ q2 => ?_)
    exact ⟨_, rfl, q2.fin ls2 (fun e => .tup (f2.tup _ _ hrv) ((hx (hv2 e).1).fr f2)) trivial⟩
  refine for_range (fun k σ H' => ∃ (j : Nat) (er : Option (Nat × Str)) (rv : Addr) (xs : List V) (rows : List Sm) (p4 : Option V), σ = [some (.ref u), some (.ref a), some (.int (d : Int)), some (.ref rv), p4] ∧ H' rv = some (.tup xs) ∧ LS w u a H' j er ∧ xs.length ≤ k ∧ (er = none → TDs H' xs (Sm.datas rows) ∧ k ≤ j) ∧
    posL w u a repL aY H' (lf er ((cts w.ws (sF w.ws R false) "}" (w.ws.length + 1 - k) j rows).bind fun l k => (xpt w.ws "}" k).bind fun _ m => .ok l m)) Q)
    ⟨j, er1, r0, [], [], none, rfl, f1.tup _ _ upd_same, ls1, Nat.le_refl _, fun _ => ⟨by rw [Sm.datas]; exact .nil, Nat.zero_le _⟩, q1⟩ ?_ ?_
  · rintro k σ H' hk ⟨j, er, rv, xs, rows, p4, rfl, hrv, ls, hxl, ho, q⟩
    refine notN_at rfl ls ?_
    cases er with
    | some e => exact iteT (iteT (fin H' j (some e) rv xs rows _ hrv ls (fun z => by cases z) q))
    | none =>
      obtain ⟨o1, o2⟩ := ho rfl
      have q : posL w u a repL aY H' ((cts w.ws (sF w.ws R false) "}" (w.ws.length + 1 - k) j rows).bind fun l k => (xpt w.ws "}" k).bind fun _ m => .ok l m) Q := q
      obtain ⟨F, hF⟩ : ∃ F, w.ws.length + 1 - k = F + 1 := ⟨w.ws.length - k, by omega⟩
      have hF2 : w.ws.length + 1 - (k + 1) = F := by omega
      rw [hF, cts] at q
      refine iteF (w0_at rfl rfl ls ⟨rfl, _, rfl, ?_⟩)
      by_cases c0 : j < w.ws.length
      · refine iteFb (str_eqF (kdE_end w c0)) (w_at rfl rfl ls ⟨rfl, _, rfl, ?_⟩)
        by_cases c1 : tk w.ws j = "}"
        · rw [if_pos c1] at q
          refine iteTb (str_eqT c1) ?_
          exact fin H' j none rv xs rows _ hrv ls (fun _ => o1) q
        · rw [if_neg c1, if_neg (tk_ne w c0), bassoc] at q
          refine iteFb (str_eqF c1) ?_
          refine ⟨_, rfl, _, rfl, _, rfl, _, rfl, u, a, j, none, false, rfl, ls, posL.bindA (er := none) q (fun H v l m e hv => ?_) fun l m er2 H2 v f2 ls2 hv2 an q2 => ?_⟩
          · obtain ⟨t, zs, rfl, ht, hz⟩ := TD.tup_inv hv
            refine ⟨t, zs, rfl, ht, ?_⟩
            rw [hz.length, Sm.datas_map, List.length_map]
            exact hpay.2 _ _ _ e
          obtain ⟨t, ys, rfl, ht, hyl⟩ := an
          have hrv2 := f2.tup _ _ hrv
          have nxt : ∀ (H3 : Hp) (r : Addr), Fr [] H2 H3 → H3 r = some (.tup (xs ++ ys)) → ∃ (j : Nat) (er : Option (Nat × Str)) (rv : Addr) (xs' : List V) (rows : List Sm) (p4' : Option V), [some (V.ref u), some (.ref a), some (.int (d : Int)), some (.ref r), some (.int (0 + (k : Int)))] = [some (.ref u), some (.ref a), some (.int (d : Int)), some (.ref rv), p4'] ∧ H3 rv = some (.tup xs') ∧ LS w u a H3 j er ∧ xs'.length ≤ k + 1 ∧ (er = none → TDs H3 xs' (Sm.datas rows) ∧ k + 1 ≤ j) ∧
              posL w u a repL aY H3 (lf er ((cts w.ws (sF w.ws R false) "}" (w.ws.length + 1 - (k + 1)) j rows).bind fun l k => (xpt w.ws "}" k).bind fun _ m => .ok l m)) Q := by
            intro H3 r f3 hr3
            refine ⟨m, er2, r, xs ++ ys, rows ++ l, _, rfl, hr3, ls2.fr0 f3, ?_, fun e => ?_, ?_⟩
            · rw [List.length_append]
              omega
            · obtain ⟨_, e2, e3⟩ := hv2 e
              obtain ⟨b1, _, _⟩ := hpay.1 _ _ _ e2
              obtain ⟨t', zs, e4, ht', hz⟩ := TD.tup_inv e3
              cases e4
              rw [ht] at ht'
              cases ht'
              refine ⟨?_, by omega⟩
              rw [Sm.datas_map, List.map_append, ← Sm.datas_map, ← Sm.datas_map]
              exact ((o1.fr f2).fr f3).append (hz.fr f3)
            · rw [hF2]
              exact q2.step (f3.mono (by simp))
          refine ⟨rv, t, xs, ys, rfl, rfl, sqT hrv2, sqT ht, mil8 (by omega), fun e => ?_, fun _ e => ?_, fun _ _ p hp => ?_⟩
          · subst e
            exact nxt H2 t Fr.refl ht
          · subst e
            exact nxt H2 rv Fr.refl (by rw [List.append_nil]; exact hrv2)
          · exact nxt _ p (Fr.new hp) upd_same
      · have e0 := tk_end (ws := w.ws) c0
        rw [if_neg (by rw [e0]; decide +kernel), if_pos e0] at q
        refine iteTb (str_eqT (by rw [kdE, if_neg c0])) (iteT ?_)
        refine fin H' j none rv xs rows _ hrv ls (fun _ => o1) ?_
        show posL w u a repL aY H' ((xpt w.ws "}" j).bind fun _ m => .ok rows m) Q
        rw [xpt, if_neg (by rw [e0]; decide +kernel)]
        have es : ("expected " ++ "}" : Str) = "expected }" := by decide +kernel
        rw [es]
        exact q
  · rintro σ H' ⟨j, er, rv, xs, rows, p4, rfl, hrv, ls, hxl, ho, q⟩
    cases er with
    | some e => exact fin H' j (some e) rv xs rows _ hrv ls (fun z => by cases z) q
    | none =>
      have := (ho rfl).2
      have := ls.le
      omega
theorem ok_lblk (T : Txt K mg) {d R k : Nat} (GS : CalS R0 wd K mg base k "_law_read_statement" (spLStm w d R)) (hk : 4 ≤ k) : CalS R0 wd K mg base (k + 1) "_law_read_block" (spLBlk w d R) := by
  refine cal_s T.d_l_read_block T.g_l_read_block sc_l_read_block (fun _ _ _ _ _ _ us hl => match us, hl with | [_, _, _], _ => rfl) (fun vs H Q E h => ?_) (fun cdv A outer s H vs Q E hr h => ⟨t_l_read_block K E w (spLStm w d R), ?_, pure_lblk vs H Q E h⟩)
  · obtain ⟨u, a, i, er, rfl, _⟩ := h
    rfl
  · exact (pss_cons (ps_set (i := 3) sc_l_read_block.nd rfl (Or.inl rfl) (pe_tup pa_nil))
      (pss_cons (ps_expr (pc (ok_ltake T) hr (by omega) passE rfl (pa_cons (pv 0) (pa_cons (pv 1) (pa_cons pe_str pa_nil)))))
      (pss_cons (ps_for ownE rfl (pi_range1 rfl T.f_range (pa_cons (pe_callB call_len_seq rfl T.f_len (by decide +kernel) (pa_cons (pv 0) pa_nil)) pa_nil)) (pg_name (i := 4) sc_l_read_block.nd rfl (Or.inl rfl)) (pss_cons (ps_if (PW.pt (pw_or (pt_cmpR op_notN (pe_ix ix_list (pv 1) pe_int (fun _ _ => rfl)) pe_non (nomark _)) (pw_or (pt_cmpR op_eq (pe_ix ix_tup (pe_ix ix_list (pv 0) (pe_ix ix_list (pv 1) pe_int (fun _ _ => rfl)) (fun _ _ => rfl)) pe_int (fun _ _ => rfl)) pe_str (nomark _)) (pw_or1 (pt_cmpR op_eq (pe_ix ix_tup (pe_ix ix_list (pv 0) (pe_ix ix_list (pv 1) pe_int (fun _ _ => rfl)) (fun _ _ => rfl)) pe_int (fun _ _ => rfl)) pe_str (nomark _)))))) (pss_one ps_break) pss_nil)
      (pss_one (ps_set (i := 3) sc_l_read_block.nd rfl (Or.inl rfl) (pe_op op_catA (pv 3) (pc GS hr (by omega) passE rfl (pa_cons (pv 0) (pa_cons (pv 1) (pa_cons (pv 2) (pa_cons pe_bl pa_nil))))))))))
      (pss_cons (ps_expr (pc (ok_ltake T) hr (by omega) passE rfl (pa_cons (pv 0) (pa_cons (pv 1) (pa_cons pe_str pa_nil)))))
      (pss_one (ps_ret (pv 3)))))))
theorem pure_lbdy {d R : Nat} (vs : List V) (H : Hp) (Q : VK) (E : XK) (h : spLBdy w d R vs H Q E) : t_l_read_body K E w (spLBlk w d R) (spLStm w d R) { nx := fun _ H' => Q .non H', rt := Q } (start N_l_read_body vs) H := by
  obtain ⟨u, a, i, er, rfl, ls, q⟩ := h
  rw [bdy_sF] at q
  have st : posL w u a repL aY H (lf er (sF w.ws R true i)) Q → tRet (tCal (spLStm w d R) E (tCons (tVar 0) (tCons (tVar 1) (tCons (tVar 2) (tCons (tC (.bl true)) tNil))))) { nx := fun _ H' => Q .non H', rt := Q } [some (.ref u), some (.ref a), some (.int (d : Int))] H := fun q => by
    refine ⟨_, rfl, _, rfl, _, rfl, u, a, i, er, true, rfl, ls, ?_⟩
    generalize lf er (sF w.ws R true i) = A at q ⊢
    cases A with
    | ok x j => exact q
    | no k s => exact fun H' v j f l _ => q H' v j f l trivial
  refine isN_at rfl ls ?_
  cases er with
  | some e => exact iteF (iteF (st q))
  | none =>
    refine iteT (w_at rfl rfl ls ⟨rfl, _, rfl, ?_⟩)
    by_cases c : tk w.ws i = "{"
    · rw [if_pos c] at q
      refine iteTb (str_eqT c) ?_
      exact ⟨_, rfl, _, rfl, _, rfl, u, a, i, none, rfl, ls, q⟩
    · rw [if_neg c] at q
      exact iteFb (str_eqF c) (st q)
theorem ok_lbdy (T : Txt K mg) {d R k : Nat} (GB : CalS R0 wd K mg base (k + 1) "_law_read_block" (spLBlk w d R)) (GS : CalS R0 wd K mg base k "_law_read_statement" (spLStm w d R)) (hk : 4 ≤ k) : CalS R0 wd K mg base (k + 2) "_law_read_body" (spLBdy w d R) := by
  refine cal_s T.d_l_read_body T.g_l_read_body sc_l_read_body (fun _ _ _ _ _ _ us hl => match us, hl with | [_, _, _], _ => rfl) (fun vs H Q E h => ?_) (fun cdv A outer s H vs Q E hr h => ⟨t_l_read_body K E w (spLBlk w d R) (spLStm w d R), ?_, pure_lbdy vs H Q E h⟩)
  · obtain ⟨u, a, i, er, rfl, _⟩ := h
    rfl
  · exact (pss_cons (ps_if (PW.pt (pw_and (pt_cmpR op_isN (pe_ix ix_list (pv 1) pe_int (fun _ _ => rfl)) pe_non (nomark _)) (pw_and1 (pt_cmpR op_eq (pe_ix ix_tup (pe_ix ix_list (pv 0) (pe_ix ix_list (pv 1) pe_int (fun _ _ => rfl)) (fun _ _ => rfl)) pe_int (fun _ _ => rfl)) pe_str (nomark _))))) (pss_one (ps_ret (pc GB hr (by omega) passE rfl (pa_cons (pv 0) (pa_cons (pv 1) (pa_cons (pv 2) pa_nil)))))) pss_nil)
      (pss_one (ps_ret (pc GS hr (by omega) passE rfl (pa_cons (pv 0) (pa_cons (pv 1) (pa_cons (pv 2) (pa_cons pe_bl pa_nil))))))))
theorem inV_str (x : Str) : ∀ l : List Str, inV (.str x) (l.map V.str) = decide (x ∈ l)
  | [] => by simp [inV]
  | y :: r => by
    have h := inV_str x r
    unfold inV at h ⊢
    rw [List.map_cons, List.any_cons, h]
    by_cases c : x = y
    · subst c
      simp [eqV]
    · have c2 : (eqV (.str y) (.str x)) = false := by
        show (y == x) = false
        rw [beq_eq_false_iff_ne]
        exact Ne.symm c
      rw [c2, Bool.false_or]
      have e : (x ∈ y :: r) ↔ x ∈ r := by rw [List.mem_cons]; exact ⟨fun z => z.resolve_left c, .inr⟩
      simp only [e]
def W9 : List Str := [";", "let", "if", "while", "for", "break", "continue", "return", "try"]
/-- not in the words that begin a statement -/
theorem l_w9 {H : Hp} {σ : L2.St} {D : Ends} {tA tB : TS} {x : Str} {k : Nat} (ho : σ[k]? = some (some (.str x))) (h1 : x ∉ W9 → ∀ H', Fr [] H H' → tA D σ H') (h2 : x ∈ W9 → ∀ H', Fr [] H H' → tB D σ H') :
    tIfS (tTest (tOp (rIn K true) (tVar k) (tLst (tCons (tC (.str ";")) (tCons (tC (.str "let")) (tCons (tC (.str "if")) (tCons (tC (.str "while")) (tCons (tC (.str "for")) (tCons (tC (.str "break")) (tCons (tC (.str "continue")) (tCons (tC (.str "return")) (tCons (tC (.str "try")) tNil)))))))))))) tA tB D σ H := by
  refine ⟨_, ho, (show 9 ≤ sizeLine by decide), fun l hl => ?_⟩
  have fn : Fr [] H (upd H l (.lst (W9.map V.str))) := Fr.new hl
  refine ⟨l, W9.map V.str, rfl, .inl (sqL upd_same), rfl, by decide +kernel, _, rfl, ?_⟩
  by_cases c : x ∈ W9
  · refine iteFb ?_ (h2 c _ fn)
    show (!inV (.str x) (W9.map V.str)) = false
    rw [inV_str, decide_eq_true c]
    rfl
  · refine iteTb ?_ (h1 c _ fn)
    show (!inV (.str x) (W9.map V.str)) = true
    rw [inV_str, decide_eq_false c]
    rfl
theorem l_isn {σ : L2.St} {H : Hp} {D : Ends} {tA tB : TS} {E : XK} {u a : Addr} {i : Nat} {er : Option (Nat × Str)} (h0 : σ[0]? = some (some (.ref u))) (h1 : σ[1]? = some (some (.ref a))) (ls : LS w u a H i er)
    (ha : isN w.ws i = true → ∀ H', Fr [] H H' → tA D σ H') (hb : ¬ isN w.ws i = true → ∀ H', Fr [] H H' → tB D σ H') : tIfS (L2.tB (tCal spLNamed E (tCons (tOp (rIxL K) (tVar 0) (tOp (rIxL K) (tVar 1) (tC (.int 0)))) tNil))) tA tB D σ H := by
  refine k_at h0 h1 ls fun t ht => ⟨t, _, _, _, rfl, ht, fun H1 f1 => ?_⟩
  rw [isN_kd]
  refine ⟨_, rfl, ?_⟩
  by_cases n : isN w.ws i = true
  · exact iteTb n (ha n H1 f1)
  · exact iteFb (by simpa using n) (hb n H1 f1)
theorem pure_lstm0 {d : Nat} (hd : d = 41) {spB spN spI spL : Sp} (vs : List V) (H : Hp) (Q : VK) (E : XK) (h : spLStm w d 0 vs H Q E) : t_l_read_statement K E w spB spN spI spL { nx := fun _ H' => Q .non H', rt := Q } (start N_l_read_statement vs) H := by
  obtain ⟨u, a, i, er, b, rfl, ls, q⟩ := h
  have emp : ∀ (H2 : Hp) (j : Nat) (e : Nat × Str), LS w u a H2 j (some e) → posL w u a repL anyT H2 (.no e.1 e.2 : Rs (List Sm)) Q → 0 ≤ sizeLine ∧ ∀ p, H2 p = none → Q (.ref p) (upd H2 p (.tup [])) := fun H2 j e ls2 q2 => ⟨Nat.zero_le _, fun p hp => by
    have fn : Fr [] H2 (upd H2 p (.tup [])) := Fr.new hp
    exact q2 _ _ j (fn.mono (by simp)) (ls2.fr0 fn) ⟨p, [], rfl, upd_same, Nat.zero_le _⟩⟩
  refine w_at rfl rfl ls (notN_at rfl ls ?_)
  cases er with
  | some e => exact iteT (emp H i e ls q)
  | none =>
    refine iteF ⟨_, rfl, _, _, rfl, rfl, _, rfl, iteTb (decide_eq_true (by omega)) ?_⟩
    refine ⟨_, rfl, _, rfl, u, a, i, none, _, rfl, ls, fun H2 f2 ls2 => ?_⟩
    exact emp H2 i _ ls2 (posL.step (R := .no i nested) (α := List Sm) q f2)
theorem pure_lstm {d R : Nat} (hd : d + (R + 1) = 41) (vs : List V) (H : Hp) (Q : VK) (E : XK) (h : spLStm w d (R + 1) vs H Q E) :
    t_l_read_statement K E w (spLBlk w (d + 1) R) (spLNmd w d R) (spLIf w d R) (spLLop w d R) { nx := fun _ H' => Q .non H', rt := Q } (start N_l_read_statement vs) H := by
  obtain ⟨u, a, i, er, b, rfl, ls, q⟩ := h
  have emp : ∀ (H2 : Hp) (j : Nat) (e : Nat × Str), LS w u a H2 j (some e) → posL w u a repL anyT H2 (.no e.1 e.2 : Rs (List Sm)) Q → 0 ≤ sizeLine ∧ ∀ p, H2 p = none → Q (.ref p) (upd H2 p (.tup [])) := fun H2 j e ls2 q2 => ⟨Nat.zero_le _, fun p hp => by
    have fn : Fr [] H2 (upd H2 p (.tup [])) := Fr.new hp
    exact q2 _ _ j (fn.mono (by simp)) (ls2.fr0 fn) ⟨p, [], rfl, upd_same, Nat.zero_le _⟩⟩
  have one1 : ∀ {H1 : Hp} {A : Rs Sm}, posL w u a repL anyT H1 (one A) Q → posL w u a repS aY H1 (lf none A) (fun v H' => 1 ≤ sizeLine ∧ ∀ p, H' p = none → Q (.ref p) (upd H' p (.tup [v]))) := fun {H1 A} q => by
    refine posL.bind (er := none) (f := fun s j => .ok [s] j) q (fun _ _ _ _ => trivial) fun x j er' H' v fr ls' hv _ q' => ⟨one_le, fun p hp => ?_⟩
    have fn : Fr [] H' (upd H' p (.tup [v])) := Fr.new hp
    refine (q'.step (fn.mono (by simp))).fin (ls'.fr0 fn) (fun e => ?_) ⟨p, [v], rfl, upd_same, Nat.le_refl _⟩
    rw [repL, Sm.datas, Sm.datas]
    exact TD.mk1 upd_same (TD.fr (hv e).2.2 fn)
  refine w_at rfl rfl ls (notN_at rfl ls ?_)
  cases er with
  | some e => exact iteT (emp H i e ls q)
  | none =>
    refine iteF ⟨_, rfl, _, _, rfl, rfl, _, rfl, iteFb (decide_eq_false (by omega)) ?_⟩
    have q : posL w u a repL anyT H (if tk w.ws i = "let" then (if b = true then .no i "let is not allowed here" else (dcl w.ws i).bind fun d j => .ok [d] j) else stm w.ws (R + 1) i) Q := q
    refine v_eq (k := 4) rfl (fun c => ?_) fun cB => ?_
    · -- a block
      rw [if_neg (by rw [c]; decide +kernel), stm, if_neg (by rw [c]; decide +kernel), if_pos c, item_sF] at q
      refine ⟨_, rfl, _, rfl, _, rfl, _, _, rfl, rfl, u, a, i, none, rfl, ls, posL.bind (er := none) q (fun _ _ _ _ => trivial) fun x j er2 H2 v f2 ls2 hv _ q2 => ⟨two_le, fun p hp => ⟨one_le, fun o ho => ?_⟩⟩⟩
      have fn : Fr [] H2 (upd H2 p (.tup [.str "block", v])) := Fr.new hp
      have fo : Fr [] (upd H2 p (.tup [.str "block", v])) (upd (upd H2 p (.tup [.str "block", v])) o (.tup [.ref p])) := Fr.new ho
      refine (q2.step ((fn.trans fo).mono (by simp))).fin (ls2.fr0 (fn.trans fo)) (fun e => ?_) ⟨o, [.ref p], rfl, upd_same, Nat.le_refl _⟩
      rw [repL, Sm.datas, Sm.datas, Sm.data]
      exact TD.mk1 upd_same (TD.mk2 (fo.tup _ _ upd_same) (.str _) (TD.fr (hv e).2.2 (fn.trans fo)))
    · -- let as a body
      refine ⟨_, rfl, rfl, _, rfl, ?_⟩
      by_cases cl : tk w.ws i = "let"
      · rw [if_pos cl] at q
        refine iteTb (str_eqT cl) ⟨_, rfl, _, rfl, ?_⟩
        cases b with
        | true =>
          refine iteT ⟨_, rfl, _, rfl, u, a, i, none, _, rfl, ls, fun H2 f2 ls2 => ?_⟩
          exact emp H2 i _ ls2 (posL.step (R := .no i "let is not allowed here") (α := List Sm) q f2)
        | false =>
          refine iteF ?_
          have q : posL w u a repL anyT H ((dcl w.ws i).bind fun d j => .ok [d] j) Q := q
          refine l_isn rfl rfl ls (fun n => absurd cl (isN_ne n)) fun _ H1 f1 => ?_
          refine l_w9 rfl (fun z => absurd (by rw [cl]; decide +kernel) z) fun _ H2 f2 => ?_
          have ls2 := (ls.fr0 f1).fr0 f2
          have q2 := q.step ((f1.trans f2).mono (M' := [a]) (by simp))
          refine inc_at rfl ls2 (tk_lt w.ws (ne_e cl)) fun H3 f3 ls3 => ?_
          have q3 := q2.step f3
          refine v_eq (k := 4) rfl (fun z => absurd (cl.symm.trans z) (by decide +kernel)) fun _ => ?_
          refine v_eq (k := 4) rfl (fun z => absurd (cl.symm.trans z) (by decide +kernel)) fun _ => ?_
          refine v_eq2 (k := 4) rfl (fun z => absurd z (by rw [cl]; decide +kernel)) fun _ => ?_
          refine v_eq (k := 4) rfl (fun z => absurd (cl.symm.trans z) (by decide +kernel)) fun _ => ?_
          refine v_ne (k := 4) rfl (fun z => absurd cl z) fun _ => ?_
          refine w_at rfl rfl ls3 ?_
          have done : ∀ (H5 : Hp) (j : Nat) (er5 : Option (Nat × Str)), LS w u a H5 j er5 → posL w u a repL anyT H5 (lf er5 ((trE w.ws j).bind fun b k => .ok [Sm.dcl (tk w.ws (i + 1)) b] k)) Q →
              tRet (tTup (tCons (tTup (tCons (tC (.str "let")) (tCons (tVar 6) (tCons (tCal (spLTruth w) E (tCons (tVar 0) (tCons (tVar 1) tNil))) tNil)))) tNil)) { nx := fun _ H' => Q .non H', rt := Q } [some (.ref u), some (.ref a), some (.int (d : Int)), some (.bl false), some (.str (tk w.ws i)), none, some (.str (tk w.ws (i + 1)))] H5 := by
            intro H5 j er5 ls5 q5
            refine ⟨_, rfl, _, rfl, _, rfl, u, a, j, er5, rfl, ls5, q5.bind (fun _ _ _ _ => trivial) fun b k er6 H6 v f6 ls6 hv _ q6 => ⟨three_le, fun p hp => ⟨one_le, fun o ho => ?_⟩⟩⟩
            have fn : Fr [] H6 (upd H6 p (.tup [.str "let", .str (tk w.ws (i + 1)), v])) := Fr.new hp
            have fo : Fr [] (upd H6 p (.tup [.str "let", .str (tk w.ws (i + 1)), v])) (upd (upd H6 p (.tup [.str "let", .str (tk w.ws (i + 1)), v])) o (.tup [.ref p])) := Fr.new ho
            refine (q6.step ((fn.trans fo).mono (by simp))).fin (ls6.fr0 (fn.trans fo)) (fun e => ?_) ⟨o, [.ref p], rfl, upd_same, Nat.le_refl _⟩
            have hb : v = .bl b := (hv e).2.2
            subst hb
            rw [repL, Sm.datas, Sm.datas, Sm.data]
            exact TD.mk1 upd_same (TD.mk3 (fo.tup _ _ upd_same) (.str _) (.str _) (.bl _))
          unfold dcl at q3
          refine l_isn rfl rfl ls3 (fun n H4 f4 => ?_) fun n H4 f4 => ?_
          · rw [if_pos n] at q3
            refine inc_at rfl (ls3.fr0 f4) (isN_lt w.ws n) fun H5 f5 ls5 => ?_
            refine done H5 (i + 2) none ls5 ?_
            have e : ((trE w.ws (i + 2)).bind fun b k => Rs.ok [Sm.dcl (tk w.ws (i + 1)) b] k) = ((xpt w.ws "=" (i + 2)).bind fun _ j => (tru w.ws j).bind fun b k => (xpt w.ws ";" k).bind fun _ l => .ok (.dcl (tk w.ws (i + 1)) b) l).bind fun d j => .ok [d] j := by
              unfold trE
              rw [bassoc, bassoc]
              congr 1
              funext _ j
              rw [bassoc, bassoc]
              congr 1
              funext b k
              rw [bassoc, bassoc]
              rfl
            show posL w u a repL anyT H5 ((trE w.ws (i + 2)).bind fun b k => Rs.ok [Sm.dcl (tk w.ws (i + 1)) b] k) Q
            rw [e]
            exact (q3.step (f4.mono (M' := [a]) (by simp))).step f5
          · rw [if_neg n] at q3
            refine ⟨_, rfl, _, rfl, u, a, i + 1, none, _, rfl, ls3.fr0 f4, fun H5 f5 ls5 => ?_⟩
            exact done H5 (i + 1) _ ls5 (posL.step (R := .no (i + 1) "expected a name") (α := List Sm) (posL.step (R := .no (i + 1) "expected a name") (α := List Sm) q3 (f4.mono (M' := [a]) (by simp))) f5)
      · rw [if_neg cl, stm] at q
        refine iteFb (str_eqF cl) (iteF ?_)
        refine l_isn rfl rfl ls (fun n H1 f1 => ?_) fun n H1 f1 => ?_
        · rw [if_neg (isN_ne n), if_neg cB, if_pos n] at q
          refine inc_at rfl (ls.fr0 f1) (isN_lt w.ws n) fun H2 f2 ls2 => ?_
          exact ⟨_, rfl, _, rfl, _, rfl, _, rfl, u, a, i, rfl, ls2, one1 ((q.step (f1.mono (M' := [a]) (by simp))).step f2)⟩
        · have q1 := q.step (f1.mono (M' := [a]) (by simp))
          have ls1 := ls.fr0 f1
          refine l_w9 rfl (fun z H2 f2 => ?_) fun z H2 f2 => ?_
          · have q2 := q1.step (f2.mono (M' := [a]) (by simp))
            have m : ∀ x ∈ W9, ¬ tk w.ws i = x := fun x hx e => z (e ▸ hx)
            rw [if_neg (m _ (by decide +kernel)), if_neg cB, if_neg n, if_neg (m _ (by decide +kernel)), if_neg (fun e => e.elim (m _ (by decide +kernel)) (m _ (by decide +kernel))), if_neg (fun e => e.elim (m _ (by decide +kernel)) (m _ (by decide +kernel))), if_neg (m _ (by decide +kernel)), if_neg (m _ (by decide +kernel))] at q2
            refine ⟨_, rfl, _, rfl, u, a, i, none, _, rfl, ls1.fr0 f2, fun H3 f3 ls3 => ?_⟩
            exact emp H3 i _ ls3 (posL.step (R := .no i "expected a statement") (α := List Sm) q2 f3)
          · have ls2 := ls1.fr0 f2
            have q2 := q1.step (f2.mono (M' := [a]) (by simp))
            have il : i < w.ws.length := tk_lt w.ws fun e => by
              rw [e] at z
              exact absurd z (by decide +kernel)
            refine inc_at rfl ls2 il fun H3 f3 ls3 => ?_
            have q3 := q2.step f3
            refine v_eq (k := 4) rfl (fun c => ?_) fun c => ?_
            · rw [if_pos c] at q3
              refine ⟨Nat.zero_le _, fun p hp => ?_⟩
              have fn : Fr [] H3 (upd H3 p (.tup [])) := Fr.new hp
              exact q3 _ _ (fn.mono (by simp)) (ls3.fr0 fn) (by rw [repL, Sm.datas]; exact .tup upd_same .nil)
            rw [if_neg c, if_neg cB, if_neg n] at q3
            refine v_eq (k := 4) rfl (fun c => ?_) fun c => ?_
            · rw [if_pos c] at q3
              exact ⟨_, rfl, _, rfl, _, rfl, u, a, i, rfl, ls3, one1 q3⟩
            rw [if_neg c] at q3
            refine v_eq2 (k := 4) rfl (fun c => ?_) fun c => ?_
            · rw [if_pos c] at q3
              exact ⟨_, rfl, _, rfl, _, rfl, _, rfl, u, a, i, none, rfl, ls3, one1 q3⟩
            rw [if_neg c] at q3
            refine v_eq (k := 4) rfl (fun c => ?_) fun c => ?_
            · -- try
              rw [if_neg (fun e => by rw [c] at e; exact absurd e (by decide +kernel)), if_neg (fun e => by rw [c] at e; exact absurd e (by decide +kernel)), if_pos c] at q3
              unfold atm at q3
              rw [item_sF] at q3
              have q3 : posL w u a repL anyT H3 (lf none ((blc w.ws (sF w.ws R false) (i + 1)).bind fun b j => (xpt w.ws "finally" j).bind fun _ k => (blc w.ws (sF w.ws R false) k).bind fun l m => .ok [Sm.tri b l] m)) Q := by
                have e : one ((blc w.ws (sF w.ws R false) (i + 1)).bind fun b j => (xpt w.ws "finally" j).bind fun _ k => (blc w.ws (sF w.ws R false) k).bind fun l m => .ok (Sm.tri b l) m) = (blc w.ws (sF w.ws R false) (i + 1)).bind fun b j => (xpt w.ws "finally" j).bind fun _ k => (blc w.ws (sF w.ws R false) k).bind fun l m => .ok [Sm.tri b l] m := by
                  unfold one
                  rw [bassoc]
                  congr 1
                  funext b j
                  rw [bassoc]
                  congr 1
                  funext _ k
                  rw [bassoc]
                  rfl
                show posL w u a repL anyT H3 _ Q
                rw [← e]
                exact q3
              refine ⟨_, rfl, _, rfl, _, rfl, _, _, rfl, rfl, u, a, i + 1, none, rfl, ls3, q3.bind (fun _ _ _ _ => trivial) fun x j er4 H4 v f4 ls4 hv4 _ q4 => ?_⟩
              refine l_take rfl rfl ls4 (q4.bind (fun _ _ _ _ => trivial) fun _ k er5 H5 _ f5 ls5 hv5 _ q5 => ?_)
              refine ⟨_, rfl, _, rfl, _, rfl, _, rfl, _, _, rfl, rfl, u, a, k, er5, rfl, ls5, q5.bind (fun _ _ _ _ => trivial) fun y m er6 H6 z f6 ls6 hv6 _ q6 => ⟨three_le, fun p hp => ⟨one_le, fun o ho => ?_⟩⟩⟩
              have fn : Fr [] H6 (upd H6 p (.tup [.str "try", v, z])) := Fr.new hp
              have fo : Fr [] (upd H6 p (.tup [.str "try", v, z])) (upd (upd H6 p (.tup [.str "try", v, z])) o (.tup [.ref p])) := Fr.new ho
              refine (q6.step ((fn.trans fo).mono (by simp))).fin (ls6.fr0 (fn.trans fo)) (fun e => ?_) ⟨o, [.ref p], rfl, upd_same, Nat.le_refl _⟩
              have e5 := (hv6 e).1
              have e4 := (hv5 e5).1
              rw [repL, Sm.datas, Sm.datas, Sm.data]
              exact TD.mk1 upd_same (TD.mk3 (fo.tup _ _ upd_same) (.str _) (TD.fr (TD.fr (TD.fr (hv4 e4).2.2 f5) f6) (fn.trans fo)) (TD.fr (hv6 e).2.2 (fn.trans fo)))
            refine v_ne (k := 4) rfl (fun _ => ?_) fun z => absurd z cl
            suffices o3 : posL w u a repL anyT H3 (one (if tk w.ws i = "return" then fin w.ws i else jmp w.ws i)) Q by
              exact ⟨_, rfl, _, rfl, _, rfl, u, a, i, rfl, ls3, one1 o3⟩
            by_cases r : tk w.ws i = "return"
            · rw [if_pos r]
              rw [if_neg (fun e => by rw [r] at e; exact absurd e (by decide +kernel)), if_pos r] at q3
              exact q3
            · rw [if_neg r]
              by_cases j : tk w.ws i = "break" ∨ tk w.ws i = "continue"
              · rw [if_pos j] at q3
                exact q3
              · exfalso
                simp only [W9, List.mem_cons, List.not_mem_nil, or_false] at z
                rcases z with z | z | z | z | z | z | z | z | z
                · rename_i c1 c2 c3 _
                  exact absurd z (by assumption)
                all_goals first | exact absurd z (by assumption) | exact absurd (Or.inl z) (by assumption) | exact absurd (Or.inr z) (by assumption)
theorem ok_lstm (T : Txt K mg) : ∀ R d, d + R = 41 → CalS R0 wd K mg base (5 * R + 51) "_law_read_statement" (spLStm w d R) := by
  have len : ∀ (d R : Nat) (vs : List V) (H : Hp) (Q : VK) (E : XK), spLStm w d R vs H Q E → vs.length = 4 := by
    intro d R vs H Q E h
    obtain ⟨u, a, i, er, b, rfl, _⟩ := h
    rfl
  have tmp : ∀ (k : Nat) (spB spN spI spL sp : Sp), 3 ≤ k → CalS R0 wd K mg base k "_law_read_block" spB → CalS R0 wd K mg base k "_law_read_named" spN → CalS R0 wd K mg base k "_law_read_if" spI → CalS R0 wd K mg base k "_law_read_loop" spL → (∀ vs H Q E, sp vs H Q E → vs.length = 4) →
      (∀ vs H Q E, sp vs H Q E → t_l_read_statement K E w spB spN spI spL { nx := fun _ H' => Q .non H', rt := Q } (start N_l_read_statement vs) H) → CalS R0 wd K mg base (k + 1) "_law_read_statement" sp := by
    intro k spB spN spI spL sp hk GB GN GI GL len hp
    refine cal_s T.d_l_read_statement T.g_l_read_statement sc_l_read_statement (fun _ _ _ _ _ _ us hl => match us, hl with | [_, _, _, _], _ => rfl) len (fun cdv A outer s H vs Q E hr h => ⟨t_l_read_statement K E w spB spN spI spL, ?_, hp vs H Q E h⟩)
    exact (pss_cons (ps_set (i := 4) sc_l_read_statement.nd rfl (Or.inl rfl) (pe_ix ix_tup (pe_ix ix_list (pv 0) (pe_ix ix_list (pv 1) pe_int (fun _ _ => rfl)) (fun _ _ => rfl)) pe_int (fun _ _ => rfl)))
      (pss_cons (ps_if (pt_cmpR op_notN (pe_ix ix_list (pv 1) pe_int (fun _ _ => rfl)) pe_non (nomark _)) (pss_one (ps_ret (pe_tup pa_nil))) pss_nil)
      (pss_cons (ps_if (pt_cmpR op_gt (pv 2) pe_int (nomark _)) (pss_cons (ps_expr (pc (ok_lfault T) hr (by omega) passE rfl (pa_cons (pv 0) (pa_cons (pv 1) (pa_cons pe_str pa_nil)))))
      (pss_one (ps_ret (pe_tup pa_nil)))) pss_nil)
      (pss_cons (ps_if (pt_cmpR op_eq (pv 4) pe_str (nomark _)) (pss_one (ps_ret (pe_tup (pa_cons (pe_tup (pa_cons pe_str (pa_cons (pc GB hr (by omega) passE rfl (pa_cons (pv 0) (pa_cons (pv 1) (pa_cons (pe_op op_add (pv 2) pe_int) pa_nil)))) pa_nil))) pa_nil)))) pss_nil)
      (pss_cons (ps_if (PW.pt (pw_and (pt_cmpR op_eq (pv 4) pe_str (nomark _)) (pw_and1 (pt_val (pv 3))))) (pss_cons (ps_expr (pc (ok_lfault T) hr (by omega) passE rfl (pa_cons (pv 0) (pa_cons (pv 1) (pa_cons pe_str pa_nil)))))
      (pss_one (ps_ret (pe_tup pa_nil)))) pss_nil)
      (pss_cons (ps_if (pt_val (pc (ok_lnamed T) hr (by omega) passE rfl (pa_cons (pe_ix ix_list (pv 0) (pe_ix ix_list (pv 1) pe_int (fun _ _ => rfl)) (fun _ _ => rfl)) pa_nil))) (pss_cons (ps_asg (pe_op op_add (pe_ix ix_list (pv 1) pe_int (fun _ _ => rfl)) pe_int) (pg_sub (pv 1) pe_int set_list))
      (pss_one (ps_ret (pe_tup (pa_cons (pc GN hr (by omega) passE rfl (pa_cons (pv 0) (pa_cons (pv 1) (pa_cons (pv 4) (pa_cons (pv 2) pa_nil))))) pa_nil))))) pss_nil)
      (pss_cons (ps_if (pt_cmpR op_notIn_seq (pv 4) (pe_lst (pa_cons pe_str (pa_cons pe_str (pa_cons pe_str (pa_cons pe_str (pa_cons pe_str (pa_cons pe_str (pa_cons pe_str (pa_cons pe_str (pa_cons pe_str pa_nil)))))))))) (by rfl)) (pss_cons (ps_expr (pc (ok_lfault T) hr (by omega) passE rfl (pa_cons (pv 0) (pa_cons (pv 1) (pa_cons pe_str pa_nil)))))
      (pss_one (ps_ret (pe_tup pa_nil)))) pss_nil)
      (pss_cons (ps_asg (pe_op op_add (pe_ix ix_list (pv 1) pe_int (fun _ _ => rfl)) pe_int) (pg_sub (pv 1) pe_int set_list))
      (pss_cons (ps_if (pt_cmpR op_eq (pv 4) pe_str (nomark _)) (pss_one (ps_ret (pe_tup pa_nil))) pss_nil)
      (pss_cons (ps_if (pt_cmpR op_eq (pv 4) pe_str (nomark _)) (pss_one (ps_ret (pe_tup (pa_cons (pc GI hr (by omega) passE rfl (pa_cons (pv 0) (pa_cons (pv 1) (pa_cons (pv 2) pa_nil)))) pa_nil)))) pss_nil)
      (pss_cons (ps_if (PW.pt (pw_or (pt_cmpR op_eq (pv 4) pe_str (nomark _)) (pw_or1 (pt_cmpR op_eq (pv 4) pe_str (nomark _))))) (pss_one (ps_ret (pe_tup (pa_cons (pc GL hr (by omega) passE rfl (pa_cons (pv 0) (pa_cons (pv 1) (pa_cons pe_non (pa_cons (pv 4) (pa_cons (pv 2) pa_nil)))))) pa_nil)))) pss_nil)
      (pss_cons (ps_if (pt_cmpR op_eq (pv 4) pe_str (nomark _)) (pss_cons (ps_set (i := 5) sc_l_read_statement.nd rfl (Or.inl rfl) (pc GB hr (by omega) passE rfl (pa_cons (pv 0) (pa_cons (pv 1) (pa_cons (pe_op op_add (pv 2) pe_int) pa_nil)))))
      (pss_cons (ps_expr (pc (ok_ltake T) hr (by omega) passE rfl (pa_cons (pv 0) (pa_cons (pv 1) (pa_cons pe_str pa_nil)))))
      (pss_one (ps_ret (pe_tup (pa_cons (pe_tup (pa_cons pe_str (pa_cons (pv 5) (pa_cons (pc GB hr (by omega) passE rfl (pa_cons (pv 0) (pa_cons (pv 1) (pa_cons (pe_op op_add (pv 2) pe_int) pa_nil)))) pa_nil)))) pa_nil)))))) pss_nil)
      (pss_cons (ps_if (pt_cmpR op_ne (pv 4) pe_str (nomark _)) (pss_one (ps_ret (pe_tup (pa_cons (pc (ok_ljump T) hr (by omega) passE rfl (pa_cons (pv 0) (pa_cons (pv 1) (pa_cons (pv 4) pa_nil)))) pa_nil)))) pss_nil)
      (pss_cons (ps_set (i := 6) sc_l_read_statement.nd rfl (Or.inl rfl) (pe_ix ix_tup (pe_ix ix_list (pv 0) (pe_ix ix_list (pv 1) pe_int (fun _ _ => rfl)) (fun _ _ => rfl)) pe_int (fun _ _ => rfl)))
      (pss_cons (ps_if (pt_val (pc (ok_lnamed T) hr (by omega) passE rfl (pa_cons (pe_ix ix_list (pv 0) (pe_ix ix_list (pv 1) pe_int (fun _ _ => rfl)) (fun _ _ => rfl)) pa_nil))) (pss_one (ps_asg (pe_op op_add (pe_ix ix_list (pv 1) pe_int (fun _ _ => rfl)) pe_int) (pg_sub (pv 1) pe_int set_list))) (pss_one (ps_expr (pc (ok_lfault T) hr (by omega) passE rfl (pa_cons (pv 0) (pa_cons (pv 1) (pa_cons pe_str pa_nil)))))))
      (pss_one (ps_ret (pe_tup (pa_cons (pe_tup (pa_cons pe_str (pa_cons (pv 6) (pa_cons (pc (ok_ltruth T) hr (by omega) passE rfl (pa_cons (pv 0) (pa_cons (pv 1) pa_nil))) pa_nil)))) pa_nil)))))))))))))))))))
  intro R
  induction R with
  | zero =>
    intro d hd
    exact (tmp 3 spNo spNo spNo spNo (spLStm w d 0) (by omega)
      (cal_no (ps := ["_law_units", "_law_at", "_law_depth"]) T.d_l_read_block T.g_l_read_block (fun _ _ _ _ _ _ us hl => match us, hl with | [_, _, _], _ => rfl) _)
      (cal_no (ps := ["_law_units", "_law_at", "_law_word", "_law_depth"]) T.d_l_read_named T.g_l_read_named (fun _ _ _ _ _ _ us hl => match us, hl with | [_, _, _, _], _ => rfl) _)
      (cal_no (ps := ["_law_units", "_law_at", "_law_depth"]) T.d_l_read_if T.g_l_read_if (fun _ _ _ _ _ _ us hl => match us, hl with | [_, _, _], _ => rfl) _)
      (cal_no (ps := ["_law_units", "_law_at", "_law_label", "_law_word", "_law_depth"]) T.d_l_read_loop T.g_l_read_loop (fun _ _ _ _ _ _ us hl => match us, hl with | [_, _, _, _, _], _ => rfl) _) (len d 0) (pure_lstm0 (by omega))).up (by omega)
  | succ R ih =>
    intro d hd
    have GS := ih (d + 1) (by omega)
    have GB := ok_lblk T GS (by omega)
    have GY := ok_lbdy T GB GS (by omega)
    have GL := ok_llop T (d := d) GY (by omega)
    have GI := ok_lif T (d := d) GY (by omega)
    have GN := ok_lnmd T GL (by omega)
    exact (tmp (5 * R + 55) _ _ _ _ (spLStm w d (R + 1)) (by omega) (GB.up (by omega)) (GN.up (by omega)) (GI.up (by omega)) (GL.up (by omega)) (len d (R + 1)) (pure_lstm hd)).up (by omega)
end
end K18

/-! L8: the law's reader: units -/
namespace K18
open PySem PySem.Spec L2
open PyProof.Rows hiding St
abbrev N_l_scanned : List Str := ["_law_text", "_law_letters", "_law_found", "_law_place", "_law_k", "_law_sign", "_law_size"]
theorem sc_l_scanned : FnScope N_l_scanned ["_law_text"] (defScope s_l_scanned) := ⟨rfl, rfl, rfl, by decide +kernel, rfl, by decide +kernel, by decide +kernel⟩
def t_l_scanned (K : PySem.W.Frag) (E : XK)  : TS :=
  (tSeq (tAsg (tC (.str "abcdefghijklmnopqrstuvwxyzABCDEFGHIJKLMNOPQRSTUVWXYZ")) (gName 1))
  (tSeq (tAsg (tLst tNil) (gName 2))
  (tSeq (tAsg (tC (.int 0)) (gName 3))
  (tSeq (tFor (iRng1 (tCons (tOp rAddI (tCB rLenT (tCons (tVar 0) tNil)) (tC (.int 1))) tNil)) (gName 4) (tSeq (tIfS (tTest (tOp rGeI (tVar 3) (tCB rLenT (tCons (tVar 0) tNil)))) (tRet (tVar 2)) tNext)
  (tSeq (tAsg (tOp rIxS (tVar 0) (tVar 3)) (gName 5))
  (tSeq (tAsg (tC (.int 1)) (gName 6))
  (tSeq (tIfS (tTest (tOp rInS (tVar 5) (tVar 1))) (tSeq (tWhile (tAnd (tTest (tOp rLtI (tOp rAddI (tVar 3) (tVar 6)) (tCB rLenT (tCons (tVar 0) tNil)))) (tTest (tOp rInS (tOp rIxS (tVar 0) (tOp rAddI (tVar 3) (tVar 6))) (tOp rAddT (tVar 1) (tC (.str "0123456789_")))))) (tAsg (tOp rAddI (tVar 6) (tC (.int 1))) (gName 6)))
  (tSeq (tIfS (tTest (tOp rGtI (tVar 6) (tC (.int 30)))) (tRet (tTup (tCons (tVar 3) (tCons (tC (.str "word too long")) tNil)))) tNext)
  (tDrop (tBM K "list" rAppend (tVar 2) (tCons (tTup (tCons (tC (.str "word")) (tCons (tSl rSlS (tVar 0) (tPart (tVar 3)) (tPart (tOp rAddI (tVar 3) (tVar 6)))) (tCons (tVar 3) tNil)))) tNil))))) (tIfS (tTest (tOp rInS (tVar 5) (tC (.str "0123456789")))) (tSeq (tWhile (tAnd (tTest (tOp rLtI (tOp rAddI (tVar 3) (tVar 6)) (tCB rLenT (tCons (tVar 0) tNil)))) (tTest (tOp rInS (tOp rIxS (tVar 0) (tOp rAddI (tVar 3) (tVar 6))) (tC (.str "0123456789"))))) (tAsg (tOp rAddI (tVar 6) (tC (.int 1))) (gName 6)))
  (tSeq (tIfS (tOr (tTest (tOp rGtI (tVar 6) (tC (.int 2)))) (tAnd (tTest (tOp rEq (tVar 6) (tC (.int 2)))) (tTest (tOp rEq (tVar 5) (tC (.str "0")))))) (tRet (tTup (tCons (tVar 3) (tCons (tC (.str "invalid number")) tNil)))) tNext)
  (tDrop (tBM K "list" rAppend (tVar 2) (tCons (tTup (tCons (tC (.str "number")) (tCons (tSl rSlS (tVar 0) (tPart (tVar 3)) (tPart (tOp rAddI (tVar 3) (tVar 6)))) (tCons (tVar 3) tNil)))) tNil))))) (tIfS (tOr (tTest (tOp rEq (tSl rSlS (tVar 0) (tPart (tVar 3)) (tPart (tOp rAddI (tVar 3) (tC (.int 2))))) (tC (.str "&&")))) (tTest (tOp rEq (tSl rSlS (tVar 0) (tPart (tVar 3)) (tPart (tOp rAddI (tVar 3) (tC (.int 2))))) (tC (.str "||"))))) (tSeq (tAsg (tC (.int 2)) (gName 6))
  (tDrop (tBM K "list" rAppend (tVar 2) (tCons (tTup (tCons (tC (.str "symbol")) (tCons (tSl rSlS (tVar 0) (tPart (tVar 3)) (tPart (tOp rAddI (tVar 3) (tC (.int 2))))) (tCons (tVar 3) tNil)))) tNil)))) (tIfS (tTest (tOp rInS (tVar 5) (tC (.str "(){};:=!")))) (tDrop (tBM K "list" rAppend (tVar 2) (tCons (tTup (tCons (tC (.str "symbol")) (tCons (tVar 5) (tCons (tVar 3) tNil)))) tNil))) (tIfS (tTest (tOp rNotInS (tVar 5) (tC (.str " \n\t")))) (tRet (tTup (tCons (tVar 3) (tCons (tC (.str "unexpected character")) tNil)))) tNext)))))
  (tAsg (tOp rAddI (tVar 3) (tVar 6)) (gName 3)))))))
  (tRet (tVar 2))))))
theorem cd_mk (l : List Nat) : cd ⟨l.toArray⟩ = l := by simp
/-- the first two signs from a place on -/
theorem cut2_ne {z x : Str} {p c d : Nat} {r : List Nat} (hd : (cd z).drop p = c :: r) (hx : cd x = [d, d]) (h : c ≠ d) : ¬ cutS z (some (p : Int)) (some (((p + 2 : Nat)) : Int)) = x := fun e => by
  have hl := (drop_at hd).2.1
  rw [← str_len] at hl
  unfold cutS at e
  have hm : min p z.length = p := Nat.min_eq_left (by omega)
  rw [HT.sIx_nat, HT.sIx_nat, hm] at e
  have e2 := congrArg cd e
  rw [hx, cd_mk] at e2
  have e3 : ((cd z).drop p).take (min (p + 2) z.length - p) = [d, d] := e2
  rw [hd] at e3
  obtain ⟨k, hk⟩ : ∃ k, min (p + 2) z.length - p = k + 1 := ⟨min (p + 2) z.length - p - 1, by omega⟩
  rw [hk, List.take_succ_cons] at e3
  exact h (List.cons.inj e3).1
section
variable {K : PySem.W.Frag} {H : Hp} {D : Ends} {te : TE} {z chs : Str} {p : Nat} {run r : List Nat} {f k s5 : Option V}
/-- signs of a kind are counted -/
theorem l_run (hte : ∀ s6 H Q, Q (.str chs) H → te [some (.str z), some (.str LT), f, some (.int (p : Int)), k, s5, s6] H Q) (hp : p ≤ z.length) (hd : (cd z).drop p = run ++ r) (h0 : 1 ≤ run.length) (h1 : ∀ c ∈ run, inS chs c = true) (h2 : ∀ c, r.head? = some c → inS chs c = false) (hz : z.length ≤ sizeLine)
    (q : D.nx [some (.str z), some (.str LT), f, some (.int (p : Int)), k, s5, some (.int (run.length : Int))] H) :
    tWhile (tAnd (tTest (tOp rLtI (tOp rAddI (tVar 3) (tVar 6)) (tCB rLenT (tCons (tVar 0) tNil)))) (tTest (tOp rInS (tOp rIxS (tVar 0) (tOp rAddI (tVar 3) (tVar 6))) te))) (tAsg (tOp rAddI (tVar 6) (tC (.int 1))) (gName 6)) D
      [some (.str z), some (.str LT), f, some (.int (p : Int)), k, s5, some (.int 1)] H := by
  have el := len_cd z _ hd hp
  rw [List.length_append] at el
  refine ⟨fun m σ H' => H' = H ∧ ∃ s : Nat, m + s = run.length ∧ 1 ≤ s ∧ σ = [some (.str z), some (.str LT), f, some (.int (p : Int)), k, s5, some (.int (s : Int))], ⟨run.length - 1, rfl, 1, by omega, Nat.le_refl _, rfl⟩, ?_⟩
  rintro m σ H' ⟨rfl, s, hm, hs, rfl⟩
  have dr : (cd z).drop (p + s) = run.drop s ++ r := by
    rw [← List.drop_drop, hd, List.drop_append_of_le_length (by omega)]
  refine ⟨_, rfl, _, rfl, _, _, rfl, rfl, _, rfl, z, rfl, hz, _, _, rfl, rfl, _, rfl, ?_⟩
  cases hr : run.drop s with
  | cons c t =>
    rw [hr] at dr
    have hsl : s < run.length := by
      have := congrArg List.length hr
      rw [List.length_drop, List.length_cons] at this
      omega
    have hc : inS chs c = true := h1 c (List.mem_of_mem_drop (by rw [hr]; exact List.mem_cons_self ..))
    refine iteTb (decide_eq_true (by omega)) ?_
    refine ⟨_, rfl, _, rfl, _, rfl, _, _, rfl, rfl, z, _, c, rfl, rfl, hz, at_cd (p := p + s) dr, hte _ _ _ ⟨c, chs, rfl, rfl, _, rfl, iteTb hc ?_⟩⟩
    refine ⟨fun σ' H'' => ∃ m2, m2 < m ∧ H'' = H' ∧ ∃ s : Nat, m2 + s = run.length ∧ 1 ≤ s ∧ σ' = [some (.str z), some (.str LT), f, some (.int (p : Int)), k, s5, some (.int (s : Int))], fun _ _ x => x, ?_⟩
    exact ⟨_, rfl, _, _, rfl, rfl, m - 1, by omega, rfl, s + 1, by omega, by omega, rfl⟩
  | nil =>
    rw [hr, List.nil_append] at dr
    have hsl : s = run.length := by
      have := congrArg List.length hr
      rw [List.length_drop, List.length_nil] at this
      omega
    cases r with
    | nil =>
      rw [List.length_nil] at el
      refine iteFb (decide_eq_false (by omega)) (iteF ?_)
      rw [hsl]
      exact q
    | cons c t =>
      rw [List.length_cons] at el
      refine iteTb (decide_eq_true (by omega)) ?_
      refine ⟨_, rfl, _, rfl, _, rfl, _, _, rfl, rfl, z, _, c, rfl, rfl, hz, at_cd (p := p + s) dr, hte _ _ _ ⟨c, chs, rfl, rfl, _, rfl, iteFb (h2 c rfl) ?_⟩⟩
      rw [hsl]
      exact q
end
def spLScan : Sp := fun vs H Q _ => ∃ (z : Str) (ws : List Str) (ps : List Nat), vs = [.str z] ∧ Lay 0 (cd z) ws ps ∧ z.length ≤ 1000000 ∧ ∀ H' l us, Fr [] H H' → H' l = some (.lst us) → Us H' us ws ps → Q (.ref l) H'
section
variable {wd : World} {K : PySem.W.Frag} {mg : Str → Option Value} {base : Heap} {w : Rw}
theorem pure_lscan (vs : List V) (H : Hp) (Q : VK) (E : XK) (h : spLScan vs H Q E) : t_l_scanned K E { nx := fun _ H' => Q .non H', rt := Q } (start N_l_scanned vs) H := by
  obtain ⟨z, ws, ps, rfl, hL, hz, q⟩ := h
  have hzs := mil hz
  have dj := inS_dj
  refine ⟨Nat.zero_le _, fun f hf => ?_⟩
  refine ⟨_, rfl, z, rfl, hzs, _, _, rfl, rfl, _, rfl, by omega, by omega, ?_⟩
  rw [show ((z.length : Int) + 1).toNat = z.length + 1 by omega]
  refine for_range (fun i σ H' => ∃ (p : Nat) (us : List V) (w1 w2 : List Str) (p1 p2 : List Nat) (p4 p5 p6 : Option V), σ = [some (.str z), some (.str LT), some (.ref f), some (.int (p : Int)), p4, p5, p6] ∧ i ≤ p ∧ p ≤ z.length ∧ Fr [] H H' ∧ H' f = some (.lst us) ∧ Us H' us w1 p1 ∧ Lay p ((cd z).drop p) w2 p2 ∧ w1 ++ w2 = ws ∧ p1 ++ p2 = ps)
    ⟨0, [], [], ws, [], ps, none, none, none, rfl, Nat.le_refl _, Nat.zero_le _, Fr.new hf, upd_same, .nil, hL, rfl, rfl⟩ ?_ ?_
  · rintro i σ H1 hi ⟨p, us, w1, w2, p1, p2, p4, p5, p6, rfl, hip, hp, fr, hl, hu, hLp, ew, ep⟩
    have el := len_cd z _ rfl hp
    refine ⟨_, rfl, _, rfl, z, rfl, hzs, _, _, rfl, rfl, _, rfl, ?_⟩
    generalize ed : (cd z).drop p = l at hLp el
    cases l with
    | nil =>
      rw [List.length_nil] at el
      refine iteTb (decide_eq_true (by omega)) ?_
      have e1 : w2 = [] ∧ p2 = [] := by
        have a := hLp.len
        have b := a.2
        have c := a.1
        rw [List.length_nil] at b
        have d : w2 = [] := List.length_eq_zero_iff.mp (by omega)
        exact ⟨d, List.length_eq_zero_iff.mp (by rw [d, List.length_nil] at c; omega)⟩
      obtain ⟨rfl, rfl⟩ := e1
      rw [List.append_nil] at ew ep
      subst ew ep
      exact ⟨_, rfl, q H1 f us fr hl hu⟩
    | cons c r =>
      rw [List.length_cons] at el
      refine iteFb (decide_eq_false (by omega)) ?_
      refine ⟨_, rfl, _, rfl, z, _, c, rfl, rfl, hzs, at_cd ed, ?_⟩
      -- a token that is found
      have found : ∀ (w : Str) (r' : List Nat) (ws' : List Str) (ps' : List Nat) (H2 : Hp) (t : Addr) (s5 : Option V), c :: r = cd w ++ r' → w2 = w :: ws' → p2 = p :: ps' → Wok (cd w) → Lay (p + (cd w).length) r' ws' ps' → H1 t = none → H2 = upd (upd H1 t (.tup (tokV w p))) f (.lst (us ++ [.ref t])) →
          (tAsg (tOp rAddI (tVar 3) (tVar 6)) (gName 3)) { nx := fun σ H' => ∃ (p : Nat) (us : List V) (w1 w2 : List Str) (p1 p2 : List Nat) (p4 p5 p6 : Option V), σ = [some (.str z), some (.str LT), some (.ref f), some (.int (p : Int)), p4, p5, p6] ∧ i + 1 ≤ p ∧ p ≤ z.length ∧ Fr [] H H' ∧ H' f = some (.lst us) ∧ Us H' us w1 p1 ∧ Lay p ((cd z).drop p) w2 p2 ∧ w1 ++ w2 = ws ∧ p1 ++ p2 = ps, rt := Q }
            [some (.str z), some (.str LT), some (.ref f), some (.int (p : Int)), some (.int (0 + (i : Int))), s5, some (.int ((cd w).length : Int))] H2 := by
        rintro w r' ws' ps' H2 t s5 e1 rfl rfl hw hl2 ht rfl
        have e2 : (cd z).drop p = cd w ++ r' := ed.trans e1
        have el2 : p + (cd w).length + r'.length = z.length := by
          have := len_cd z _ e2 hp
          rw [List.length_append] at this
          omega
        obtain ⟨c0, r0, ec0, _⟩ := hw.head
        have hw1 : 1 ≤ (cd w).length := by rw [ec0, List.length_cons]; omega
        have f2 : Fr [] H1 (upd H1 t (.tup (tokV w p))) := Fr.new ht
        have hf2 := f2.oth _ _ hl (by simp)
        have f3 : Fr [f] (upd H1 t (.tup (tokV w p))) (upd (upd H1 t (.tup (tokV w p))) f (.lst (us ++ [.ref t]))) := Fr.put hf2 (List.mem_singleton.mpr rfl)
        refine ⟨_, rfl, _, rfl, _, _, rfl, rfl, p + (cd w).length, us ++ [.ref t], w1 ++ [w], ws', p1 ++ [p], ps', _, _, _, rfl, by omega, by omega, (fr.trans f2).out hf, upd_same, ((hu.fr f2).fr f3).snoc (f3.tup _ _ upd_same), ?_, ?_, ?_⟩
        · have e3 : (cd z).drop (p + (cd w).length) = r' := by
            rw [← List.drop_drop, e2, List.drop_left]
          rw [e3]
          exact hl2
        · rw [← ew]
          simp
        · rw [← ep]
          simp
      have hlen : us.length < sizeLine := by
        have a := hu.len
        have b := hL.len.2
        rw [← ew, List.length_append] at b
        have c := str_len z
        exact Nat.lt_of_le_of_lt (show us.length ≤ 1000000 by omega) (by decide)
      cases hb : inS BK c with
      | true =>
        -- a blank
        have n1 : inS LT c = false := by
          cases e : inS LT c with
          | false => rfl
          | true => rw [(dj.1 c (inS_mem e)).1] at hb; cases hb
        have n2 : inS DG c = false := by
          cases e : inS DG c with
          | false => rfl
          | true => rw [(dj.2.1 c (inS_mem e)).1] at hb; cases hb
        have n3 : inS SY c = false := by
          cases e : inS SY c with
          | false => rfl
          | true => rw [(dj.2.2.1 c (inS_mem e)).1] at hb; cases hb
        have n4 : c ≠ 38 := fun e => by rw [e, dj.2.2.2.1] at hb; cases hb
        have n5 : c ≠ 124 := fun e => by rw [e, dj.2.2.2.2.2.2.2.1] at hb; cases hb
        refine ⟨_, rfl, _, rfl, c, LT, rfl, rfl, _, rfl, iteFb n1 ?_⟩
        refine ⟨_, rfl, c, DG, rfl, rfl, _, rfl, iteFb n2 ?_⟩
        refine ⟨_, rfl, _, rfl, _, rfl, _, rfl, _, _, rfl, rfl, _, rfl, z, rfl, hzs, rfl, _, rfl, iteFb (str_eqF (cut2_ne (d := 38) ed (by decide +kernel) n4)) ?_⟩
        refine ⟨_, rfl, _, rfl, _, rfl, _, rfl, _, _, rfl, rfl, _, rfl, z, rfl, hzs, rfl, _, rfl, iteFb (str_eqF (cut2_ne (d := 124) ed (by decide +kernel) n5)) ?_⟩
        refine ⟨_, rfl, c, SY, rfl, rfl, _, rfl, iteFb n3 ?_⟩
        refine ⟨_, rfl, c, BK, rfl, rfl, _, rfl, iteFb (by show (!inS BK c) = false; rw [hb]; rfl) ?_⟩
        refine ⟨_, rfl, _, rfl, _, _, rfl, rfl, p + 1, us, w1, w2, p1, p2, _, _, _, rfl, by omega, by omega, fr, hl, hu, ?_, ew, ep⟩
        rw [(drop_at ed).2.2]
        exact hLp.blank hb
      | false =>
        obtain ⟨w, r', ws', ps', e1, ew2, ep2, hw, hs, hl2⟩ := hLp.word hb
        have hw0 := hw
        have cut0 : cutS z (some (p : Int)) (some ((p : Int) + ((cd w).length : Int))) = w := by
          rcases cut_word (ed.trans e1) with h | h
          · exact h.1
          · obtain ⟨c, r', e, _⟩ := hw.head
            rw [e] at h
            cases h.1
        have ed1 := ed.trans e1
        have put : ∀ (k : Str) (s5 : Option V) (n : Nat), n = (cd w).length → kd (cd w) = k → (tDrop (tBM K "list" rAppend (tVar 2) (tCons (tTup (tCons (tC (.str k)) (tCons (tSl rSlS (tVar 0) (tPart (tVar 3)) (tPart (tOp rAddI (tVar 3) (tVar 6)))) (tCons (tVar 3) tNil)))) tNil)))
            { nx := (tAsg (tOp rAddI (tVar 3) (tVar 6)) (gName 3)) { nx := fun σ H' => ∃ (p : Nat) (us : List V) (w1 w2 : List Str) (p1 p2 : List Nat) (p4 p5 p6 : Option V), σ = [some (.str z), some (.str LT), some (.ref f), some (.int (p : Int)), p4, p5, p6] ∧ i + 1 ≤ p ∧ p ≤ z.length ∧ Fr [] H H' ∧ H' f = some (.lst us) ∧ Us H' us w1 p1 ∧ Lay p ((cd z).drop p) w2 p2 ∧ w1 ++ w2 = ws ∧ p1 ++ p2 = ps, rt := Q }, rt := Q }
            [some (.str z), some (.str LT), some (.ref f), some (.int (p : Int)), some (.int (0 + (i : Int))), s5, some (.int (n : Int))] H1 := by
          intro k s5 n hn hk
          subst hn
          refine ⟨_, rfl, .inl ⟨rfl, _, sqL hl⟩, _, rfl, _, rfl, _, rfl, _, rfl, _, rfl, _, _, rfl, rfl, _, rfl, z, rfl, hzs, ?_⟩
          rw [cut0]
          refine ⟨_, rfl, three_le, fun t ht => ?_⟩
          have f2 : Fr [] H1 (upd H1 t (.tup [.str k, .str w, .int (p : Int)])) := Fr.new ht
          refine ⟨f, us, .ref t, rfl, rfl, f2.oth _ _ hl (by simp), hlen, ?_⟩
          exact found w r' ws' ps' _ t s5 e1 ew2 ep2 hw0 hl2 ht (by unfold tokV; rw [hk])
        have stopW : ∀ d, r'.head? = some d → (∀ e, (cd w).getLast? = some e → inS WC e = true) → inS WC d = false := fun d hd2 h => by
          cases hl : (cd w).getLast? with
          | none =>
            obtain ⟨c0, r0, e0, _⟩ := hw.head
            rw [e0] at hl
            simp at hl
          | some e => exact hs d e hd2 hl (h e hl)
        have lenw : ∀ l, cd w = l → (l.length : Int) = ((cd w).length : Int) := fun l e => by rw [e]
        cases hcw : cd w with
        | nil =>
          obtain ⟨c0, r0, e0, _⟩ := hw.head
          rw [e0] at hcw
          cases hcw
        | cons c0 t0 =>
          have ec : c = c0 := by
            rw [hcw] at e1
            exact (List.cons.inj e1).1
          subst ec
          have hw2 := hw
          rw [hcw] at hw2
          have ed2 := ed1
          rw [hcw] at ed2
          cases hw2 with
          | word _ _ h1 h2 h3 =>
            have allw : ∀ x ∈ c :: t0, inS WC x = true := by
              intro x hx
              rcases List.mem_cons.mp hx with rfl | hx
              · exact (dj.1 x (inS_mem h1)).2
              · exact h2 x hx
            refine ⟨_, rfl, _, rfl, c, LT, rfl, rfl, _, rfl, iteTb h1 ?_⟩
            refine l_run (chs := WC) (r := r') (fun s6 H Q q => ⟨_, rfl, _, _, rfl, rfl, by decide +kernel, q⟩) hp ed2 (by rw [List.length_cons]; omega) allw (fun d hd2 => stopW d hd2 fun e he => allw e (by rw [hcw] at he; exact last_mem he)) hzs ?_
            refine ⟨_, rfl, _, _, rfl, rfl, _, rfl, iteFb (decide_eq_false (by rw [List.length_cons]; omega)) ?_⟩
            exact put "word" _ _ (by rw [hcw]) (by rw [hcw]; exact if_pos h1)
          | num1 _ h1 =>
            have a := dj.2.1 c (inS_mem h1)
            have wd : ∀ d, r'.head? = some d → inS DG d = false := fun d hd2 => by
              have z2 := stopW d hd2 fun e he => by
                rw [hcw] at he
                cases he
                exact a.2.2
              cases hb : inS DG d with
              | false => rfl
              | true => rw [(dj.2.1 d (inS_mem hb)).2.2] at z2; cases z2
            refine ⟨_, rfl, _, rfl, c, LT, rfl, rfl, _, rfl, iteFb a.2.1 ?_⟩
            refine ⟨_, rfl, c, DG, rfl, rfl, _, rfl, iteTb h1 ?_⟩
            refine l_run (chs := DG) (r := r') (fun s6 H Q q => q) hp ed2 (Nat.le_refl _) (fun x hx => by rw [List.mem_singleton.mp hx]; exact h1) wd hzs ?_
            refine ⟨_, rfl, _, _, rfl, rfl, _, rfl, iteFb (show decide ((2 : Int) < ((1 : Nat) : Int)) = false by decide) ⟨_, rfl, rfl, _, rfl, iteFb (show decide (V.int ((1 : Nat) : Int) = V.int 2) = false by decide) (iteF ?_)⟩⟩
            exact put "number" _ _ (by rw [hcw]) (by rw [hcw]; exact (if_neg (by rw [a.2.1]; exact Bool.false_ne_true)).trans (if_pos h1))
          | num2 _ e h1 h2 h3 =>
            have a := dj.2.1 c (inS_mem h1)
            have a2 := dj.2.1 e (inS_mem h3)
            have wd : ∀ d, r'.head? = some d → inS DG d = false := fun d hd2 => by
              have z2 := stopW d hd2 fun e' he => by
                rw [hcw] at he
                cases he
                exact a2.2.2
              cases hb : inS DG d with
              | false => rfl
              | true => rw [(dj.2.1 d (inS_mem hb)).2.2] at z2; cases z2
            have n48 : ¬ (⟨#[c]⟩ : Str) = "0" := fun z2 => h2 (by
              have z3 : cd (⟨#[c]⟩ : Str) = cd ("0" : Str) := congrArg cd z2
              exact (List.cons.inj (show [c] = [48] from z3)).1)
            refine ⟨_, rfl, _, rfl, c, LT, rfl, rfl, _, rfl, iteFb a.2.1 ?_⟩
            refine ⟨_, rfl, c, DG, rfl, rfl, _, rfl, iteTb h1 ?_⟩
            refine l_run (chs := DG) (r := r') (fun s6 H Q q => q) hp ed2 (show 1 ≤ 2 by decide) (fun x hx => by
              rcases List.mem_cons.mp hx with rfl | hx
              · exact h1
              · rw [List.mem_singleton.mp hx]
                exact h3) wd hzs ?_
            refine ⟨_, rfl, _, _, rfl, rfl, _, rfl, iteFb (show decide ((2 : Int) < ((2 : Nat) : Int)) = false by decide) ⟨_, rfl, rfl, _, rfl, iteTb (show decide (V.int ((2 : Nat) : Int) = V.int 2) = true by decide) ⟨_, rfl, rfl, _, rfl, iteFb (str_eqF n48) ?_⟩⟩⟩
            exact put "number" _ _ (by rw [hcw]) (by rw [hcw]; exact (if_neg (by rw [a.2.1]; exact Bool.false_ne_true)).trans (if_pos h1))
          | sym _ h1 =>
            have a := dj.2.2.1 c (inS_mem h1)
            have n4 : c ≠ 38 := fun e => by rw [e, dj.2.2.2.2.2.2.1] at h1; cases h1
            have n5 : c ≠ 124 := fun e => by rw [e, dj.2.2.2.2.2.2.2.2.2.2] at h1; cases h1
            refine ⟨_, rfl, _, rfl, c, LT, rfl, rfl, _, rfl, iteFb a.2.1 ?_⟩
            refine ⟨_, rfl, c, DG, rfl, rfl, _, rfl, iteFb a.2.2 ?_⟩
            refine ⟨_, rfl, _, rfl, _, rfl, _, rfl, _, _, rfl, rfl, _, rfl, z, rfl, hzs, rfl, _, rfl, iteFb (str_eqF (cut2_ne (d := 38) ed (by decide +kernel) n4)) ?_⟩
            refine ⟨_, rfl, _, rfl, _, rfl, _, rfl, _, _, rfl, rfl, _, rfl, z, rfl, hzs, rfl, _, rfl, iteFb (str_eqF (cut2_ne (d := 124) ed (by decide +kernel) n5)) ?_⟩
            refine ⟨_, rfl, c, SY, rfl, rfl, _, rfl, iteTb h1 ?_⟩
            refine ⟨_, rfl, .inl ⟨rfl, _, sqL hl⟩, _, rfl, _, rfl, three_le, fun t ht => ?_⟩
            have ewc := str_of hcw
            have f2 : Fr [] H1 (upd H1 t (.tup [.str "symbol", .str ⟨#[c]⟩, .int (p : Int)])) := Fr.new ht
            refine ⟨f, us, .ref t, rfl, rfl, f2.oth _ _ hl (by simp), hlen, ?_⟩
            have z2 := found w r' ws' ps' _ t (some (.str ⟨#[c]⟩)) e1 ew2 ep2 hw0 hl2 ht rfl
            rw [hcw] at z2
            have ek : tokV w p = [.str "symbol", .str ⟨#[c]⟩, .int (p : Int)] := by
              unfold tokV
              rw [hcw, ewc]
              rw [show kd [c] = "symbol" from (if_neg (by rw [a.2.1]; exact Bool.false_ne_true)).trans (if_neg (by rw [a.2.2]; exact Bool.false_ne_true))]
            rw [ek] at z2
            exact z2
          | amp =>
            have ewt : w = "&&" := str_of hcw
            have cut2 : cutS z (some (p : Int)) (some ((p : Int) + 2)) = "&&" := by
              rw [hcw] at cut0
              rw [← ewt]
              exact cut0
            refine ⟨_, rfl, _, rfl, 38, LT, rfl, rfl, _, rfl, iteFb (by decide +kernel) ?_⟩
            refine ⟨_, rfl, 38, DG, rfl, rfl, _, rfl, iteFb (by decide +kernel) ?_⟩
            refine ⟨_, rfl, _, rfl, _, rfl, _, rfl, _, _, rfl, rfl, _, rfl, z, rfl, hzs, rfl, _, rfl, iteTb (str_eqT cut2) (iteT ?_)⟩
            refine ⟨_, rfl, .inl ⟨rfl, _, sqL hl⟩, _, rfl, _, rfl, _, rfl, _, rfl, _, _, rfl, rfl, _, rfl, z, rfl, hzs, ?_⟩
            rw [cut2]
            refine ⟨_, rfl, three_le, fun t ht => ?_⟩
            have f2 : Fr [] H1 (upd H1 t (.tup [.str "symbol", .str "&&", .int (p : Int)])) := Fr.new ht
            refine ⟨f, us, .ref t, rfl, rfl, f2.oth _ _ hl (by simp), hlen, ?_⟩
            have z2 := found w r' ws' ps' _ t (some (.str ⟨#[38]⟩)) e1 ew2 ep2 hw0 hl2 ht rfl
            rw [hcw] at z2
            have ek : tokV w p = [.str "symbol", .str "&&", .int (p : Int)] := by
              unfold tokV
              rw [ewt]
              rw [show kd (cd ("&&" : Str)) = "symbol" by decide +kernel]
            rw [ek] at z2
            exact z2
          | bar =>
            have ewt : w = "||" := str_of hcw
            have cut2 : cutS z (some (p : Int)) (some ((p : Int) + 2)) = "||" := by
              rw [hcw] at cut0
              rw [← ewt]
              exact cut0
            refine ⟨_, rfl, _, rfl, 124, LT, rfl, rfl, _, rfl, iteFb (by decide +kernel) ?_⟩
            refine ⟨_, rfl, 124, DG, rfl, rfl, _, rfl, iteFb (by decide +kernel) ?_⟩
            refine ⟨_, rfl, _, rfl, _, rfl, _, rfl, _, _, rfl, rfl, _, rfl, z, rfl, hzs, rfl, _, rfl, iteFb (str_eqF (fun e => absurd (cut2.symm.trans e) (by decide +kernel))) ?_⟩
            refine ⟨_, rfl, _, rfl, _, rfl, _, rfl, _, _, rfl, rfl, _, rfl, z, rfl, hzs, rfl, _, rfl, iteTb (str_eqT cut2) ?_⟩
            refine ⟨_, rfl, .inl ⟨rfl, _, sqL hl⟩, _, rfl, _, rfl, _, rfl, _, rfl, _, _, rfl, rfl, _, rfl, z, rfl, hzs, ?_⟩
            rw [cut2]
            refine ⟨_, rfl, three_le, fun t ht => ?_⟩
            have f2 : Fr [] H1 (upd H1 t (.tup [.str "symbol", .str "||", .int (p : Int)])) := Fr.new ht
            refine ⟨f, us, .ref t, rfl, rfl, f2.oth _ _ hl (by simp), hlen, ?_⟩
            have z2 := found w r' ws' ps' _ t (some (.str ⟨#[124]⟩)) e1 ew2 ep2 hw0 hl2 ht rfl
            rw [hcw] at z2
            have ek : tokV w p = [.str "symbol", .str "||", .int (p : Int)] := by
              unfold tokV
              rw [ewt]
              rw [show kd (cd ("||" : Str)) = "symbol" by decide +kernel]
            rw [ek] at z2
            exact z2
  · rintro σ H1 ⟨p, us, w1, w2, p1, p2, p4, p5, p6, rfl, hip, hp, _⟩
    omega
theorem ok_lscan (T : Txt K mg) : CalS R0 wd K mg base 1 "_law_scanned" spLScan := by
  refine cal_s T.d_l_scanned T.g_l_scanned sc_l_scanned (fun _ _ _ _ _ _ us hl => match us, hl with | [_], _ => rfl) (fun vs H Q E h => ?_) (fun cdv A outer s H vs Q E hr h => ⟨t_l_scanned K E, ?_, pure_lscan vs H Q E h⟩)
  · obtain ⟨z, ws, ps, rfl, _⟩ := h
    rfl
  · exact (pss_cons (ps_set (i := 1) sc_l_scanned.nd rfl (Or.inl rfl) pe_str)
      (pss_cons (ps_set (i := 2) sc_l_scanned.nd rfl (Or.inl rfl) (pe_lst pa_nil))
      (pss_cons (ps_set (i := 3) sc_l_scanned.nd rfl (Or.inl rfl) pe_int)
      (pss_cons (ps_for ownE rfl (pi_range1 rfl T.f_range (pa_cons (pe_op op_add (pe_callB call_len_str rfl T.f_len (by decide +kernel) (pa_cons (pv 0) pa_nil)) pe_int) pa_nil)) (pg_name (i := 4) sc_l_scanned.nd rfl (Or.inl rfl)) (pss_cons (ps_if (pt_cmpR op_ge (pv 3) (pe_callB call_len_str rfl T.f_len (by decide +kernel) (pa_cons (pv 0) pa_nil)) (nomark _)) (pss_one (ps_ret (pv 2))) pss_nil)
      (pss_cons (ps_set (i := 5) sc_l_scanned.nd rfl (Or.inl rfl) (pe_ix ix_str (pv 0) (pv 3) (fun _ _ => rfl)))
      (pss_cons (ps_set (i := 6) sc_l_scanned.nd rfl (Or.inl rfl) pe_int)
      (pss_cons (ps_if (pt_cmpR op_inS (pv 5) (pv 1) (by rfl)) (pss_cons (ps_while ownE (PW.pt (pw_and (pt_cmpR op_lt (pe_op op_add (pv 3) (pv 6)) (pe_callB call_len_str rfl T.f_len (by decide +kernel) (pa_cons (pv 0) pa_nil)) (nomark _)) (pw_and1 (pt_cmpR op_inS (pe_ix ix_str (pv 0) (pe_op op_add (pv 3) (pv 6)) (fun _ _ => rfl)) (pe_op op_add_str (pv 1) pe_str) (by rfl))))) (pss_one (ps_set (i := 6) sc_l_scanned.nd rfl (Or.inl rfl) (pe_op op_add (pv 6) pe_int))))
      (pss_cons (ps_if (pt_cmpR op_gt (pv 6) pe_int (nomark _)) (pss_one (ps_ret (pe_tup (pa_cons (pv 3) (pa_cons pe_str pa_nil))))) pss_nil)
      (pss_one (ps_expr (pe_bm PySem.F.plainAttrs_list PySem.F.slot_list_append PySem.F.type_list_append mt_append (pv 2) (pa_cons (pe_tup (pa_cons pe_str (pa_cons (pe_slice sl_str (pv 0) (po_some (pv 3)) (po_some (pe_op op_add (pv 3) (pv 6)))) (pa_cons (pv 3) pa_nil)))) pa_nil)))))) (pss_one (ps_if (pt_cmpR op_inS (pv 5) pe_str (by rfl)) (pss_cons (ps_while ownE (PW.pt (pw_and (pt_cmpR op_lt (pe_op op_add (pv 3) (pv 6)) (pe_callB call_len_str rfl T.f_len (by decide +kernel) (pa_cons (pv 0) pa_nil)) (nomark _)) (pw_and1 (pt_cmpR op_inS (pe_ix ix_str (pv 0) (pe_op op_add (pv 3) (pv 6)) (fun _ _ => rfl)) pe_str (by rfl))))) (pss_one (ps_set (i := 6) sc_l_scanned.nd rfl (Or.inl rfl) (pe_op op_add (pv 6) pe_int))))
      (pss_cons (ps_if (PW.pt (pw_or (pt_cmpR op_gt (pv 6) pe_int (nomark _)) (pw_or1 (PW.pt (pw_and (pt_cmpR op_eq (pv 6) pe_int (nomark _)) (pw_and1 (pt_cmpR op_eq (pv 5) pe_str (nomark _)))))))) (pss_one (ps_ret (pe_tup (pa_cons (pv 3) (pa_cons pe_str pa_nil))))) pss_nil)
      (pss_one (ps_expr (pe_bm PySem.F.plainAttrs_list PySem.F.slot_list_append PySem.F.type_list_append mt_append (pv 2) (pa_cons (pe_tup (pa_cons pe_str (pa_cons (pe_slice sl_str (pv 0) (po_some (pv 3)) (po_some (pe_op op_add (pv 3) (pv 6)))) (pa_cons (pv 3) pa_nil)))) pa_nil)))))) (pss_one (ps_if (PW.pt (pw_or (pt_cmpR op_eq (pe_slice sl_str (pv 0) (po_some (pv 3)) (po_some (pe_op op_add (pv 3) pe_int))) pe_str (nomark _)) (pw_or1 (pt_cmpR op_eq (pe_slice sl_str (pv 0) (po_some (pv 3)) (po_some (pe_op op_add (pv 3) pe_int))) pe_str (nomark _))))) (pss_cons (ps_set (i := 6) sc_l_scanned.nd rfl (Or.inl rfl) pe_int)
      (pss_one (ps_expr (pe_bm PySem.F.plainAttrs_list PySem.F.slot_list_append PySem.F.type_list_append mt_append (pv 2) (pa_cons (pe_tup (pa_cons pe_str (pa_cons (pe_slice sl_str (pv 0) (po_some (pv 3)) (po_some (pe_op op_add (pv 3) pe_int))) (pa_cons (pv 3) pa_nil)))) pa_nil))))) (pss_one (ps_if (pt_cmpR op_inS (pv 5) pe_str (by rfl)) (pss_one (ps_expr (pe_bm PySem.F.plainAttrs_list PySem.F.slot_list_append PySem.F.type_list_append mt_append (pv 2) (pa_cons (pe_tup (pa_cons pe_str (pa_cons (pv 5) (pa_cons (pv 3) pa_nil)))) pa_nil)))) (pss_one (ps_if (pt_cmpR op_notInS (pv 5) pe_str (by rfl)) (pss_one (ps_ret (pe_tup (pa_cons (pv 3) (pa_cons pe_str pa_nil))))) pss_nil)))))))))
      (pss_one (ps_set (i := 3) sc_l_scanned.nd rfl (Or.inl rfl) (pe_op op_add (pv 3) (pv 6)))))))))
      (pss_one (ps_ret (pv 2)))))))
end
end K18

/-! L9: the law's reader: a whole text -/
namespace K18
open PySem PySem.Spec L2
open PyProof.Rows hiding St
abbrev N_l_text_read : List Str := ["_law_text", "_law_found", "_law_units", "_law_at", "_law_rows", "_law_k"]
theorem sc_l_text_read : FnScope N_l_text_read ["_law_text"] (defScope s_l_text_read) := ⟨rfl, rfl, rfl, by decide +kernel, rfl, by decide +kernel, by decide +kernel⟩
def t_l_text_read (K : PySem.W.Frag) (E : XK) (w : Rw) : TS :=
  (tSeq (tAsg (tCal spLScan E (tCons (tVar 0) tNil)) (gName 1))
  (tSeq (tIfS (tB (tCB (rIsi K) (tCons (tVar 1) (tCons (tC (.ty "tuple")) tNil)))) (tRet (tLst (tCons (tVar 1) (tCons (tTup tNil) tNil)))) tNext)
  (tSeq (tAsg (tOp rCat (tVar 1) (tLst (tCons (tTup (tCons (tC (.str "end")) (tCons (tC (.str "")) (tCons (tCB rLenT (tCons (tVar 0) tNil)) tNil)))) tNil))) (gName 2))
  (tSeq (tAsg (tLst (tCons (tC (.int 0)) (tCons (tC .non) tNil))) (gName 3))
  (tSeq (tAsg (tTup tNil) (gName 4))
  (tSeq (tFor (iRng1 (tCons (tCB (rLenQ K) (tCons (tVar 2) tNil)) tNil)) (gName 5) (tSeq (tIfS (tOr (tTest (tOp rNotN (tOp (rIxL K) (tVar 3) (tC (.int 1))) (tC .non))) (tTest (tOp rEq (tOp (rIxT K) (tOp (rIxL K) (tVar 2) (tOp (rIxL K) (tVar 3) (tC (.int 0)))) (tC (.int 0))) (tC (.str "end"))))) tBreak tNext)
  (tAsg (tOp (rCatA K) (tVar 4) (tCal (spLStm w 0 41) E (tCons (tVar 2) (tCons (tVar 3) (tCons (tC (.int 0)) (tCons (tC (.bl false)) tNil)))))) (gName 4))))
  (tRet (tLst (tCons (tOp (rIxL K) (tVar 3) (tC (.int 1))) (tCons (tVar 4) tNil))))))))))
/-- what the law's reader says -/
def toldL (w : Rw) (H : Hp) (ev rv : V) : Prop := match prg w.ws with
  | .ok l _ => ev = .non ∧ TD H rv (bdD l)
  | .no k s => ∃ t, ev = .ref t ∧ H t = some (.tup [.int (w.pl k : Int), .str s])
def spLText (w : Rw) : Sp := fun vs H Q _ => ∃ z : Str, vs = [.str z] ∧ Txs w z ∧ ∀ H' l ev rv, Fr [] H H' → H' l = some (.lst [ev, rv]) → toldL w H' ev rv → Q (.ref l) H'
theorem prg_sF (ws : List Str) : prg ws = cts ws (sF ws 41 false) "" (ws.length + 1) 0 [] := by
  unfold prg
  rw [item_sF2]
section
variable {w : Rw} {u a : Addr} {H : Hp} {i : Nat} {er : Option (Nat × Str)} {K : PySem.W.Frag} {σ : L2.St} {Q : VK}
theorem notN_at3 {P : Bool → Hp → Prop} (ho : σ[3]? = some (some (.ref a))) (h : LS w u a H i er) (q : P er.isSome H) : tTest (tOp rNotN (tOp (rIxL K) (tVar 3) (tC (.int 1))) (tC .non)) σ H P := by
  obtain ⟨us, te, ev, h1, h2, h3, h4, h5, h6, h7⟩ := h
  refine ⟨_, ho, a, _, 1, ev, rfl, rfl, sqL h4, at1, rfl, _, rfl, ?_⟩
  cases er with
  | none =>
    have e : ev = .non := h5
    subst e
    exact q
  | some e =>
    obtain ⟨t, rfl, _⟩ := h5
    exact q
theorem w0_at23 (h0 : σ[2]? = some (some (.ref u))) (h1 : σ[3]? = some (some (.ref a))) (h : LS w u a H i er) (q : Q (.str (kdE w i)) H) :
    tOp (rIxT K) (tOp (rIxL K) (tVar 2) (tOp (rIxL K) (tVar 3) (tC (.int 0)))) (tC (.int 0)) σ H Q := by
  obtain ⟨us, t, e1, e2, _, e3⟩ := unit_at h
  obtain ⟨us', te, ev, g1, g2, g3, g4, g5, g6, g7⟩ := h
  exact ⟨_, h0, _, h1, a, _, 0, _, rfl, rfl, sqL g4, at0, u, us, _, _, rfl, rfl, sqL e1, atI_nat e2, t, _, 0, _, rfl, rfl, sqT e3, at0, q⟩
end
theorem Lay.wok : ∀ {p : Nat} {l : List Nat} {ws : List Str} {ps : List Nat}, Lay p l ws ps → ∀ w ∈ ws, Wok (cd w)
  | _, _, _, _, .nil _, w, h => by simp at h
  | _, _, _, _, .cons _ hw _ hl, w, h => by
    rcases List.mem_cons.mp h with rfl | h
    · exact hw
    · exact hl.wok w h
section
variable {wd : World} {K : PySem.W.Frag} {mg : Str → Option Value} {base : Heap} {w : Rw}
theorem pure_ltext (vs : List V) (H : Hp) (Q : VK) (E : XK) (h : spLText w vs H Q E) : t_l_text_read K E w { nx := fun _ H' => Q .non H', rt := Q } (start N_l_text_read vs) H := by
  obtain ⟨z, rfl, ⟨hL, hn, hz⟩, q⟩ := h
  have hpay := sF_pays w.ws 41
  have sz := w.sz
  refine ⟨_, rfl, z, w.ws, w.ps, rfl, hL, by omega, fun H1 l us f1 hl hu => ?_⟩
  refine ⟨_, rfl, .ref l, .ty "tuple", .type "list", .type "tuple", false, rfl, .ty _, .base (.lst hl), kit_ty (by decide +kernel), _, rfl, iteFb rfl ?_⟩
  refine ⟨_, rfl, _, rfl, z, rfl, mil (by omega), three_le, fun te hte => ?_⟩
  have f2 : Fr [] H1 (upd H1 te (.tup [.str "end", .str "", .int (z.length : Int)])) := Fr.new hte
  refine ⟨one_le, fun b hb => ?_⟩
  have f3 : Fr [] (upd H1 te (.tup [.str "end", .str "", .int (z.length : Int)])) (upd (upd H1 te (.tup [.str "end", .str "", .int (z.length : Int)])) b (.lst [.ref te])) := Fr.new hb
  have ul := hu.len
  refine ⟨l, b, us, [.ref te], rfl, rfl, (f2.trans f3).oth _ _ hl (by simp), upd_same, mil8 (by show us.length + 1 ≤ 8000000; omega), fun u hu0 => ?_⟩
  generalize hH3 : upd (upd H1 te (.tup [.str "end", .str "", .int (z.length : Int)])) b (.lst [.ref te]) = H3 at f3 hu0
  have f4 : Fr [] H3 (upd H3 u (.lst (us ++ [.ref te]))) := Fr.new hu0
  refine ⟨two_le, fun a ha => ?_⟩
  have f5 : Fr [] (upd H3 u (.lst (us ++ [.ref te]))) (upd (upd H3 u (.lst (us ++ [.ref te]))) a (.lst [.int 0, .non])) := Fr.new ha
  have hua : u ≠ a := ne_of_none upd_same ha
  have f15 := ((f2.trans f3).trans f4).trans f5
  have ls0 : LS w u a (upd (upd H3 u (.lst (us ++ [.ref te]))) a (.lst [.int 0, .non])) 0 none := by
    refine ⟨us, te, .non, ?_, hu.fr f15, ?_, upd_same, rfl, Nat.zero_le _, hua⟩
    · exact f5.oth _ _ upd_same (by simp)
    · rw [← hn]
      exact ((f3.trans f4).trans f5).tup _ _ upd_same
  refine ⟨Nat.zero_le _, fun r0 hr0 => ?_⟩
  generalize hH5 : upd (upd H3 u (.lst (us ++ [.ref te]))) a (.lst [.int 0, .non]) = H5 at f5 f15 ls0 hr0
  have f6 : Fr [] H5 (upd H5 r0 (.tup [])) := Fr.new hr0
  have hae : H a = none := by
    have z1 : H3 a = none := by
      have := ha
      rw [upd_ne (Ne.symm hua)] at this
      exact this
    exact ((f1.trans f2).trans f3).none_of z1 (by simp)
  have ls1 := ls0.fr0 f6
  have fH := ((f1.trans f15).trans f6)
  obtain ⟨us', te', ev', hu1, hu2, _⟩ := id ls1
  have ul' := hu2.len
  refine ⟨_, rfl, u, us' ++ [.ref te'], rfl, .inl (sqL hu1), _, rfl, by omega, by rw [List.length_append, List.length_singleton]; omega, ?_⟩
  have ull : (us' ++ [V.ref te']).length = w.ws.length + 1 := by
    rw [List.length_append, List.length_singleton]
    omega
  rw [ull, Int.toNat_natCast]
  have fin : ∀ (H' : Hp) (j : Nat) (er : Option (Nat × Str)) (rv : V) (p5 : Option V), Fr [a] H H' → LS w u a H' j er → (∀ ev, LE w H' ev er → toldL w H' ev rv) →
      tRet (tLst (tCons (tOp (rIxL K) (tVar 3) (tC (.int 1))) (tCons (tVar 4) tNil))) { nx := fun _ H' => Q .non H', rt := Q } [some (.str z), some (.ref l), some (.ref u), some (.ref a), some rv, p5] H' := by
    intro H' j er rv p5 fr ls ht
    obtain ⟨us, te, ev, h1, h2, h3, h4, h5, h6, h7⟩ := ls
    refine ⟨_, rfl, a, _, 1, ev, rfl, rfl, sqL h4, at1, _, rfl, two_le, fun o ho => ?_⟩
    have fo : Fr [] H' (upd H' o (.lst [ev, rv])) := Fr.new ho
    have fr2 : Fr [] H H' := ⟨fr.tup, fun b o e _ => fr.oth b o e (by
      intro y
      rw [List.mem_singleton.mp y, hae] at e
      cases e)⟩
    refine q _ o ev rv (fr2.trans fo) upd_same ?_
    have z1 := ht ev h5
    unfold toldL at z1 ⊢
    split at z1
    · exact ⟨z1.1, TD.fr z1.2 fo⟩
    · obtain ⟨t, e1, e2⟩ := z1
      exact ⟨t, e1, fo.tup _ _ e2⟩
  have wp := prg_sF w.ws
  refine for_range (fun k σ H' => ∃ (j : Nat) (er : Option (Nat × Str)) (rv : Addr) (xs : List V) (rows : List Sm) (p5 : Option V), σ = [some (.str z), some (.ref l), some (.ref u), some (.ref a), some (.ref rv), p5] ∧ Fr [a] H H' ∧ H' rv = some (.tup xs) ∧ LS w u a H' j er ∧ xs.length ≤ k ∧ (er = none → TDs H' xs (Sm.datas rows) ∧ k ≤ j) ∧
    prg w.ws = lf er (cts w.ws (sF w.ws 41 false) "" (w.ws.length + 1 - k) j rows))
    ⟨0, none, r0, [], [], none, rfl, fH.mono (by simp), upd_same, ls1, Nat.le_refl _, fun _ => ⟨by rw [Sm.datas]; exact .nil, Nat.le_refl _⟩, wp⟩ ?_ ?_
  · rintro k σ H' hk ⟨j, er, rv, xs, rows, p5, rfl, fr, hrv, ls, hxl, ho, e⟩
    refine notN_at3 rfl ls ?_
    cases er with
    | some e1 =>
      refine iteT (iteT (fin H' j (some e1) (.ref rv) _ fr ls fun ev hev => ?_))
      have e : prg w.ws = .no e1.1 e1.2 := e
      unfold toldL
      rw [e]
      exact hev
    | none =>
      obtain ⟨o1, o2⟩ := ho rfl
      have e : prg w.ws = cts w.ws (sF w.ws 41 false) "" (w.ws.length + 1 - k) j rows := e
      obtain ⟨F, hF⟩ : ∃ F, w.ws.length + 1 - k = F + 1 := ⟨w.ws.length - k, by omega⟩
      have hF2 : w.ws.length + 1 - (k + 1) = F := by omega
      rw [hF, cts] at e
      refine iteF (w0_at23 rfl rfl ls ⟨rfl, _, rfl, ?_⟩)
      by_cases c0 : j < w.ws.length
      · refine iteFb (str_eqF (kdE_end w c0)) ?_
        rw [if_neg (tk_ne w c0), if_neg (tk_ne w c0)] at e
        have call : posL w u a repL anyT H' (lf none (sF w.ws 41 false j)) fun v H2 => ∃ er2 m l2 t ys, v = .ref t ∧ H2 t = some (.tup ys) ∧ ys.length ≤ 1 ∧ Fr [a] H' H2 ∧ LS w u a H2 m er2 ∧ (er2 = none → sF w.ws 41 false j = .ok l2 m ∧ TDs H2 ys (Sm.datas l2)) ∧ prg w.ws = lf er2 (cts w.ws (sF w.ws 41 false) "" F m (rows ++ l2)) := by
          generalize hA : sF w.ws 41 false j = A at e
          cases A with
          | ok l2 m =>
            intro H2 v f2 ls2 hv
            obtain ⟨t, ys, rfl, ht, hy⟩ := TD.tup_inv hv
            refine ⟨none, m, l2, t, ys, rfl, ht, ?_, f2, ls2, fun _ => ⟨rfl, hy⟩, e⟩
            rw [hy.length, Sm.datas_map, List.length_map]
            exact hpay.2 _ _ _ hA
          | no kk s =>
            intro H2 v m f2 ls2 an
            obtain ⟨t, ys, rfl, ht, hy⟩ := an
            exact ⟨some (kk, s), m, [], t, ys, rfl, ht, hy, f2, ls2, fun z => (by cases z), e⟩
        refine ⟨_, rfl, _, rfl, _, rfl, u, a, j, none, false, rfl, ls, ?_⟩
        generalize hA : lf none (sF w.ws 41 false j) = A at call ⊢
        have nxt : ∀ v H2, (∃ er2 m l2 t ys, v = V.ref t ∧ H2 t = some (.tup ys) ∧ ys.length ≤ 1 ∧ Fr [a] H' H2 ∧ LS w u a H2 m er2 ∧ (er2 = none → sF w.ws 41 false j = .ok l2 m ∧ TDs H2 ys (Sm.datas l2)) ∧ prg w.ws = lf er2 (cts w.ws (sF w.ws 41 false) "" F m (rows ++ l2))) → rCatA K (.ref rv) v H2 fun x H3 => ∃ (j : Nat) (er : Option (Nat × Str)) (rv : Addr) (xs : List V) (rows : List Sm) (p5 : Option V), [some (.str z), some (.ref l), some (.ref u), some (.ref a), some x, some (.int (0 + (k : Int)))] = [some (V.str z), some (.ref l), some (.ref u), some (.ref a), some (.ref rv), p5] ∧ Fr [a] H H3 ∧ H3 rv = some (.tup xs) ∧ LS w u a H3 j er ∧ xs.length ≤ k + 1 ∧ (er = none → TDs H3 xs (Sm.datas rows) ∧ k + 1 ≤ j) ∧
            prg w.ws = lf er (cts w.ws (sF w.ws 41 false) "" (w.ws.length + 1 - (k + 1)) j rows) := by
          rintro v H2 ⟨er2, m, l2, t, ys, rfl, ht, hyl, f2, ls2, hok, e2⟩
          have hrv2 := f2.tup _ _ hrv
          have go : ∀ (H3 : Hp) (r : Addr), Fr [] H2 H3 → H3 r = some (.tup (xs ++ ys)) → ∃ (j : Nat) (er : Option (Nat × Str)) (rv : Addr) (xs : List V) (rows : List Sm) (p5 : Option V), [some (.str z), some (.ref l), some (.ref u), some (.ref a), some (.ref r), some (.int (0 + (k : Int)))] = [some (V.str z), some (.ref l), some (.ref u), some (.ref a), some (.ref rv), p5] ∧ Fr [a] H H3 ∧ H3 rv = some (.tup xs) ∧ LS w u a H3 j er ∧ xs.length ≤ k + 1 ∧ (er = none → TDs H3 xs (Sm.datas rows) ∧ k + 1 ≤ j) ∧
            prg w.ws = lf er (cts w.ws (sF w.ws 41 false) "" (w.ws.length + 1 - (k + 1)) j rows) := by
            intro H3 r f3 hr3
            refine ⟨m, er2, r, xs ++ ys, rows ++ l2, _, rfl, (fr.trans f2).trans (f3.mono (by simp)), hr3, ls2.fr0 f3, by rw [List.length_append]; omega, fun z => ?_, by rw [hF2]; exact e2⟩
            obtain ⟨g1, g2⟩ := hok z
            obtain ⟨b1, _, _⟩ := hpay.1 _ _ _ g1
            refine ⟨?_, by omega⟩
            rw [Sm.datas_map, List.map_append, ← Sm.datas_map, ← Sm.datas_map]
            exact ((o1.fr f2).fr f3).append (g2.fr f3)
          refine ⟨rv, t, xs, ys, rfl, rfl, sqT hrv2, sqT ht, mil8 (by omega), fun e => ?_, fun _ e => ?_, fun _ _ p hp => ?_⟩
          · subst e
            exact go H2 t Fr.refl ht
          · subst e
            exact go H2 rv Fr.refl (by rw [List.append_nil]; exact hrv2)
          · exact go _ p (Fr.new hp) upd_same
        cases A with
        | ok x m => exact fun H2 v f2 ls2 hv => nxt v H2 (call H2 v f2 ls2 hv)
        | no kk s => exact fun H2 v m f2 ls2 hv => nxt v H2 (call H2 v m f2 ls2 hv)
      · have e0 := tk_end (ws := w.ws) c0
        rw [if_pos e0] at e
        refine iteTb (str_eqT (by rw [kdE, if_neg c0])) ?_
        refine fin H' j none (.ref rv) _ fr ls fun ev hev => ?_
        unfold toldL
        rw [e]
        exact ⟨hev, .tup hrv o1⟩
  · rintro σ H' ⟨j, er, rv, xs, rows, p5, rfl, fr, hrv, ls, hxl, ho, e⟩
    cases er with
    | some e1 =>
      refine fin H' j (some e1) (.ref rv) _ fr ls fun ev hev => ?_
      have e : prg w.ws = .no e1.1 e1.2 := e
      unfold toldL
      rw [e]
      exact hev
    | none =>
      have := (ho rfl).2
      have := ls.le
      omega
theorem ok_ltext (T : Txt K mg) : CalS R0 wd K mg base 257 "_law_text_read" (spLText w) := by
  refine cal_s T.d_l_text_read T.g_l_text_read sc_l_text_read (fun _ _ _ _ _ _ us hl => match us, hl with | [_], _ => rfl) (fun vs H Q E h => ?_) (fun cdv A outer s H vs Q E hr h => ⟨t_l_text_read K E w, ?_, pure_ltext vs H Q E h⟩)
  · obtain ⟨z, rfl, _⟩ := h
    rfl
  · exact (pss_cons (ps_set (i := 1) sc_l_text_read.nd rfl (Or.inl rfl) (pc (ok_lscan T) hr (by omega) passE rfl (pa_cons (pv 0) pa_nil)))
      (pss_cons (ps_if (pt_val (pe_callB call_isi rfl T.f_isinstance (by decide +kernel) (pa_cons (pv 1) (pa_cons (pe_bltn rfl T.f_tuple (by decide +kernel) rfl) pa_nil)))) (pss_one (ps_ret (pe_lst (pa_cons (pv 1) (pa_cons (pe_tup pa_nil) pa_nil))))) pss_nil)
      (pss_cons (ps_set (i := 2) sc_l_text_read.nd rfl (Or.inl rfl) (pe_op op_cat (pv 1) (pe_lst (pa_cons (pe_tup (pa_cons pe_str (pa_cons pe_str (pa_cons (pe_callB call_len_str rfl T.f_len (by decide +kernel) (pa_cons (pv 0) pa_nil)) pa_nil)))) pa_nil))))
      (pss_cons (ps_set (i := 3) sc_l_text_read.nd rfl (Or.inl rfl) (pe_lst (pa_cons pe_int (pa_cons pe_non pa_nil))))
      (pss_cons (ps_set (i := 4) sc_l_text_read.nd rfl (Or.inl rfl) (pe_tup pa_nil))
      (pss_cons (ps_for ownE rfl (pi_range1 rfl T.f_range (pa_cons (pe_callB call_len_seq rfl T.f_len (by decide +kernel) (pa_cons (pv 2) pa_nil)) pa_nil)) (pg_name (i := 5) sc_l_text_read.nd rfl (Or.inl rfl)) (pss_cons (ps_if (PW.pt (pw_or (pt_cmpR op_notN (pe_ix ix_list (pv 3) pe_int (fun _ _ => rfl)) pe_non (nomark _)) (pw_or1 (pt_cmpR op_eq (pe_ix ix_tup (pe_ix ix_list (pv 2) (pe_ix ix_list (pv 3) pe_int (fun _ _ => rfl)) (fun _ _ => rfl)) pe_int (fun _ _ => rfl)) pe_str (nomark _))))) (pss_one ps_break) pss_nil)
      (pss_one (ps_set (i := 4) sc_l_text_read.nd rfl (Or.inl rfl) (pe_op op_catA (pv 4) (pc (ok_lstm T 41 0 rfl) hr (by omega) passE rfl (pa_cons (pv 2) (pa_cons (pv 3) (pa_cons pe_int (pa_cons pe_bl pa_nil))))))))))
      (pss_one (ps_ret (pe_lst (pa_cons (pe_ix ix_list (pv 3) pe_int (fun _ _ => rfl)) (pa_cons (pv 4) pa_nil)))))))))))
end
end K18

/-! G1: the law's tape -/
namespace K18
open PySem PySem.Spec L2
open PyProof.Rows hiding St
abbrev N_l_tape : List Str := ["_law_script", "_law_total", "_law_cell"]
theorem sc_l_tape : FnScope N_l_tape ["_law_script"] (defScope s_l_tape) := ⟨rfl, rfl, rfl, by decide +kernel, rfl, by decide +kernel, by decide +kernel⟩
def t_l_tape (K : PySem.W.Frag) (E : XK)  : TS :=
  (tSeq (tAsg (tC (.int 7)) (gName 1))
  (tSeq (tFor (iList K (tVar 0)) (gName 2) (tAsg (tOp rModI (tCB rIntI (tCons (tOp rAddI (tOp rMulI (tVar 1) (tC (.int 31))) (tCB rAbsI (tCons (tCB rIntI (tCons (tVar 2) tNil)) tNil))) tNil)) (tC (.int 2147483647))) (gName 1)))
  (tRet (tLst (tCons (tCB (rListQ K) (tCons (tVar 0) tNil)) (tCons (tC (.int 0)) (tCons (tC (.int 0)) (tCons (tVar 1) tNil))))))))
abbrev N_l_draw : List Str := ["_law_tape_here", "_law_many", "_law_place", "_law_number"]
theorem sc_l_draw : FnScope N_l_draw ["_law_tape_here", "_law_many"] (defScope s_l_draw) := ⟨rfl, rfl, rfl, by decide +kernel, rfl, by decide +kernel, by decide +kernel⟩
def t_l_draw (K : PySem.W.Frag) (E : XK)  : TS :=
  (tSeq (tIfS (tTest (tOp rEq (tOp (rIxL K) (tVar 0) (tC (.int 2))) (tC (.int 0)))) (tSeq (tAsg (tOp (rIxL K) (tVar 0) (tC (.int 1))) (gName 2))
  (tSeq (tAsg (tC (.int 0)) (gName 3))
  (tSeq (tIfS (tTest (tOp rLtI (tVar 2) (tCB (rLenQ K) (tCons (tOp (rIxL K) (tVar 0) (tC (.int 0))) tNil)))) (tAsg (tCB rAbsI (tCons (tCB rIntI (tCons (tOp (rIxL K) (tOp (rIxL K) (tVar 0) (tC (.int 0))) (tVar 2)) tNil)) tNil)) (gName 3)) (tSeq (tAsg (tOp rModI (tCB rIntI (tCons (tOp rAddI (tOp rAddI (tOp rMulI (tOp (rIxL K) (tVar 0) (tC (.int 3))) (tC (.int 48271))) (tVar 2)) (tC (.int 1))) tNil)) (tC (.int 2147483647))) (gSub (tVar 0) (tC (.int 3)) rSetL))
  (tAsg (tOp (rIxL K) (tVar 0) (tC (.int 3))) (gName 3))))
  (tSeq (tAsg (tOp rAddI (tVar 2) (tC (.int 1))) (gSub (tVar 0) (tC (.int 1)) rSetL))
  (tSeq (tIfS (tTest (tOp rLtI (tVar 3) (tOp rPowI (tC (.int 10)) (tC (.int 18))))) (tSeq (tAsg (tOp rModI (tCB rIntI (tCons (tOp rAddI (tOp rAddI (tOp rMulI (tVar 3) (tC (.int 48271))) (tOp rMulI (tVar 2) (tC (.int 69621)))) (tC (.int 5))) tNil)) (tC (.int 2147483647))) (gName 3))
  (tSeq (tAsg (tOp rModI (tCB rIntI (tCons (tOp rMulI (tVar 3) (tC (.int 69621))) tNil)) (tC (.int 2147483629))) (gName 3))
  (tRet (tOp rModI (tCB rIntI (tCons (tVar 3) tNil)) (tCB rMax2I (tCons (tVar 1) (tCons (tC (.int 1)) tNil))))))) tNext)
  (tAsg (tVar 3) (gSub (tVar 0) (tC (.int 2)) rSetL))))))) tNext)
  (tSeq (tAsg (tOp (rIxL K) (tVar 0) (tC (.int 2))) (gName 3))
  (tSeq (tAsg (tOp rDivI (tVar 3) (tCB rMax2I (tCons (tVar 1) (tCons (tC (.int 2)) tNil)))) (gSub (tVar 0) (tC (.int 2)) rSetL))
  (tRet (tOp rModI (tCB rIntI (tCons (tVar 3) tNil)) (tCB rMax2I (tCons (tVar 1) (tCons (tC (.int 1)) tNil))))))))
/-- the tape's own list: kept by all but the tape's functions -/
structure TpS (H : Hp) (a s : Addr) : Prop where
  ex : ∃ (ns : List Int) (p : Nat) (big tot : Int), H a = some (.lst [.ref s, .int (p : Int), .int big, .int tot]) ∧ H s = some (.lst (ns.map V.int)) ∧ ns.length ≤ 1000000
  ne : s ≠ a
theorem TpS.fr {H H1 : Hp} {a s : Addr} {M : List Addr} (h : TpS H a s) (f : Fr M H H1) (ha : a ∉ M) (hs : s ∉ M) : TpS H1 a s := by
  obtain ⟨⟨ns, p, big, tot, h1, h2, h3⟩, ne⟩ := h
  exact ⟨⟨ns, p, big, tot, f.oth _ _ h1 ha, f.oth _ _ h2 hs, h3⟩, ne⟩
theorem TpS.fr0 {H H1 : Hp} {a s : Addr} (h : TpS H a s) (f : Fr [] H H1) : TpS H1 a s := h.fr f (by simp) (by simp)
theorem TpS.nea {H : Hp} {a s p : Addr} (h : TpS H a s) (hp : H p = none) : p ≠ a ∧ p ≠ s := by
  obtain ⟨⟨ns, _, big, tot, h1, h2, h3⟩, ne⟩ := h
  exact ⟨fun z => (by rw [z, h1] at hp; cases hp), fun z => (by rw [z, h2] at hp; cases hp)⟩
def spTape (K : PySem.W.Frag) : Sp := fun vs H Q _ => ∃ (a : Addr) (ns : List Int), vs = [.ref a] ∧ SqL K H a (ns.map V.int) ∧ ns.length ≤ 1000000 ∧ (∀ H', Fr [] H H' → SqL K H' a (ns.map V.int)) ∧ ∀ H' t s, Fr [] H H' → H t = none → H s = none → TpS H' t s → Q (.ref t) H'
def spDraw : Sp := fun vs H Q _ => ∃ (a s : Addr) (m : Nat), vs = [.ref a, .int (m : Int)] ∧ m ≤ 1000000 ∧ TpS H a s ∧ ∀ H' (r : Nat), Fr [a] H H' → TpS H' a s → r < max m 1 → Q (.int (r : Int)) H'
section
variable {wd : World} {K : PySem.W.Frag} {mg : Str → Option Value} {base : Heap} {w : Rw}
theorem ns_get {ns : List Int} {i : Nat} {x : V} (h : (ns.map V.int)[i]? = some x) : ∃ n, x = .int n := by
  rw [List.getElem?_map] at h
  obtain ⟨n, _, e⟩ := Option.map_eq_some_iff.mp h
  exact ⟨n, e.symm⟩
theorem pure_tape (vs : List V) (H : Hp) (Q : VK) (E : XK) (h : spTape K vs H Q E) : t_l_tape K E { nx := fun _ H' => Q .non H', rt := Q } (start N_l_tape vs) H := by
  obtain ⟨a, ns, rfl, hq, hn, hk, q⟩ := h
  refine ⟨_, rfl, a, rfl, ⟨_, hq⟩, for_list (xs := ns.map V.int) (fun i σ H' => H' = H ∧ ∃ (t : Int) (p2 : Option V), σ = [some (.ref a), some (.int t), p2]) ⟨rfl, 7, none, rfl⟩ (fun i σ H' _ p => p.1 ▸ hq) ?_ ?_⟩
  · rintro i x σ H' hi ⟨rfl, t, p2, rfl⟩
    obtain ⟨n, rfl⟩ := ns_get hi
    refine ⟨_, rfl, _, _, rfl, rfl, .inr ⟨by decide, by decide⟩, _, rfl, .inl ⟨_, rfl, _, rfl, _, _, rfl, rfl, .inl ⟨_, rfl, _, _, rfl, rfl, (show (0 : Int) < 2147483647 by decide), rfl, _, _, rfl⟩⟩⟩
  · rintro σ H' ⟨rfl, t, p2, rfl⟩
    refine ⟨_, rfl, a, _, rfl, .inl hq, fun l hl => ⟨_, rfl, (show 4 ≤ sizeLine by decide), fun t' ht' => ?_⟩⟩
    have f1 : Fr [] H' (upd H' l (.lst (ns.map V.int))) := Fr.new hl
    have f2 : Fr [] (upd H' l (.lst (ns.map V.int))) (upd (upd H' l (.lst (ns.map V.int))) t' (.lst [.ref l, .int 0, .int 0, .int t])) := Fr.new ht'
    have ne : l ≠ t' := ne_of_none upd_same ht'
    have ht0 : H' t' = none := f1.none_of ht' (by simp)
    exact q _ t' l (f1.trans f2) ht0 hl ⟨⟨ns, 0, 0, t, upd_same, f2.oth _ _ upd_same (by simp), hn⟩, ne⟩
theorem ok_tape (T : Txt K mg) : CalS R0 wd K mg base 1 "_law_tape" (spTape K) := by
  refine cal_s T.d_l_tape T.g_l_tape sc_l_tape (fun _ _ _ _ _ _ us hl => match us, hl with | [_], _ => rfl) (fun vs H Q E h => ?_) (fun cdv A outer s H vs Q E hr h => ⟨t_l_tape K E, ?_, pure_tape vs H Q E h⟩)
  · obtain ⟨a, ns, rfl, _⟩ := h
    rfl
  · exact (pss_cons (ps_set (i := 1) sc_l_tape.nd rfl (Or.inl rfl) pe_int)
      (pss_cons (ps_for ownE rfl (pi_list (pv 0)) (pg_name (i := 2) sc_l_tape.nd rfl (Or.inl rfl)) (pss_one (ps_set (i := 1) sc_l_tape.nd rfl (Or.inl rfl) (pe_op op_mod (pe_callTy call_int1 rfl T.f_int (by decide +kernel) (pa_cons (pe_op op_add (pe_op op_mul (pv 1) pe_int) (pe_callB call_abs rfl T.f_abs (by decide +kernel) (pa_cons (pe_callTy call_int1 rfl T.f_int (by decide +kernel) (pa_cons (pv 2) pa_nil)) pa_nil))) pa_nil)) pe_int))))
      (pss_one (ps_ret (pe_lst (pa_cons (pe_callTy call_list_of rfl T.f_list (by decide +kernel) (pa_cons (pv 0) pa_nil)) (pa_cons pe_int (pa_cons pe_int (pa_cons (pv 1) pa_nil)))))))))
theorem max1 (m : Nat) : (if (1 : Int) > (m : Int) then (1 : Int) else (m : Int)) = ((max m 1 : Nat) : Int) := by split <;> omega
theorem max2 (m : Nat) : (if (2 : Int) > (m : Int) then (2 : Int) else (m : Int)) = ((max m 2 : Nat) : Int) := by split <;> omega
theorem emod_nat (n : Int) (k : Nat) (h : 0 < k) : ∃ r : Nat, n % (k : Int) = (r : Int) ∧ r < k := by
  have h1 := Int.emod_nonneg n (show (k : Int) ≠ 0 by omega)
  have h2 := Int.emod_lt_of_pos n (show (0 : Int) < (k : Int) by omega)
  exact ⟨(n % (k : Int)).toNat, by omega, by omega⟩
theorem pure_draw (vs : List V) (H : Hp) (Q : VK) (E : XK) (h : spDraw vs H Q E) : t_l_draw K E { nx := fun _ H' => Q .non H', rt := Q } (start N_l_draw vs) H := by
  obtain ⟨a, s, m, rfl, hm, ⟨⟨ns, p, big, tot, h1, h2, h3⟩, ne⟩, q⟩ := h
  have last : ∀ (n : Int) (H2 : Hp), Fr [a] H H2 → TpS H2 a s → Q (.int (n % (max m 1 : Nat))) H2 := by
    intro n H2 f t
    obtain ⟨r, e, hr⟩ := emod_nat n (max m 1) (by omega)
    rw [e]
    exact q H2 r f t hr
  -- when a big number is at hand
  have rest : ∀ (H2 : Hp) (p2 p3 : Option V) (pl : Nat) (big tot : Int), Fr [a] H H2 → H2 a = some (.lst [.ref s, .int (pl : Int), .int big, .int tot]) → H2 s = some (.lst (ns.map V.int)) →
      tSeq (tAsg (tOp (rIxL K) (tVar 0) (tC (.int 2))) (gName 3)) (tSeq (tAsg (tOp rDivI (tVar 3) (tCB rMax2I (tCons (tVar 1) (tCons (tC (.int 2)) tNil)))) (gSub (tVar 0) (tC (.int 2)) rSetL))
        (tRet (tOp rModI (tCB rIntI (tCons (tVar 3) tNil)) (tCB rMax2I (tCons (tVar 1) (tCons (tC (.int 1)) tNil)))))) { nx := fun _ H' => Q .non H', rt := Q } [some (.ref a), some (.int (m : Int)), p2, p3] H2 := by
    intro H2 p2 p3 pl big tot f e1 e2
    refine ⟨_, rfl, a, _, 2, _, rfl, rfl, sqL e1, at2, ?_⟩
    refine ⟨_, rfl, _, rfl, _, _, rfl, ?_⟩
    rw [max2]
    refine ⟨_, _, rfl, rfl, ⟨by omega, by omega⟩, ?_⟩
    refine ⟨_, rfl, a, _, 2, 2, rfl, rfl, e1, rfl, ?_⟩
    have f2 : Fr [a] H2 (upd H2 a (.lst [.ref s, .int (pl : Int), .int (big / ((max m 2 : Nat) : Int)), .int tot])) := Fr.put e1 (List.mem_singleton.mpr rfl)
    refine ⟨_, rfl, .inl ⟨_, rfl, _, rfl, _, _, rfl, ?_⟩⟩
    rw [max1]
    refine ⟨_, _, rfl, rfl, by omega, ?_⟩
    exact last _ _ (f.trans f2) ⟨⟨ns, pl, _, tot, upd_same, f2.oth _ _ e2 (by simpa using ne), h3⟩, ne⟩
  refine ⟨_, rfl, a, _, 2, _, rfl, rfl, sqL h1, at2, rfl, _, rfl, ?_⟩
  by_cases c : big = 0
  · refine iteTb (decide_eq_true (by rw [c])) ?_
    refine ⟨_, rfl, a, _, 1, _, rfl, rfl, sqL h1, at1, ?_⟩
    -- the number, then the place
    have mid : ∀ (H2 : Hp) (n tot : Int), Fr [a] H H2 → H2 a = some (.lst [.ref s, .int (p : Int), .int big, .int tot]) → H2 s = some (.lst (ns.map V.int)) →
        tSeq (tAsg (tOp rAddI (tVar 2) (tC (.int 1))) (gSub (tVar 0) (tC (.int 1)) rSetL))
          (tSeq (tIfS (tTest (tOp rLtI (tVar 3) (tOp rPowI (tC (.int 10)) (tC (.int 18))))) (tSeq (tAsg (tOp rModI (tCB rIntI (tCons (tOp rAddI (tOp rAddI (tOp rMulI (tVar 3) (tC (.int 48271))) (tOp rMulI (tVar 2) (tC (.int 69621)))) (tC (.int 5))) tNil)) (tC (.int 2147483647))) (gName 3))
          (tSeq (tAsg (tOp rModI (tCB rIntI (tCons (tOp rMulI (tVar 3) (tC (.int 69621))) tNil)) (tC (.int 2147483629))) (gName 3))
          (tRet (tOp rModI (tCB rIntI (tCons (tVar 3) tNil)) (tCB rMax2I (tCons (tVar 1) (tCons (tC (.int 1)) tNil))))))) tNext)
          (tAsg (tVar 3) (gSub (tVar 0) (tC (.int 2)) rSetL)))
          { nx := tSeq (tAsg (tOp (rIxL K) (tVar 0) (tC (.int 2))) (gName 3)) (tSeq (tAsg (tOp rDivI (tVar 3) (tCB rMax2I (tCons (tVar 1) (tCons (tC (.int 2)) tNil)))) (gSub (tVar 0) (tC (.int 2)) rSetL))
            (tRet (tOp rModI (tCB rIntI (tCons (tVar 3) tNil)) (tCB rMax2I (tCons (tVar 1) (tCons (tC (.int 1)) tNil)))))) { nx := fun _ H' => Q .non H', rt := Q }, rt := Q } [some (.ref a), some (.int (m : Int)), some (.int (p : Int)), some (.int n)] H2 := by
      intro H2 n tot f e1 e2
      refine ⟨_, rfl, _, _, rfl, rfl, _, rfl, a, _, 1, 1, rfl, rfl, e1, rfl, ?_⟩
      have f2 : Fr [a] H2 (upd H2 a (.lst [.ref s, .int ((p + 1 : Nat) : Int), .int big, .int tot])) := Fr.put e1 (List.mem_singleton.mpr rfl)
      refine ⟨_, rfl, _, _, rfl, rfl, ⟨by decide, by decide, by decide⟩, _, _, rfl, rfl, _, rfl, ?_⟩
      refine iteB (fun lt => ?_) fun ge => ?_
      · refine ⟨_, rfl, _, _, rfl, rfl, .inr ⟨by decide, by decide⟩, _, rfl, _, _, rfl, rfl, .inr ⟨by decide, by decide⟩, _, _, rfl, rfl, _, _, rfl, rfl, .inl ⟨_, rfl, _, _, rfl, rfl, (show (0 : Int) < 2147483647 by decide), ?_⟩⟩
        refine ⟨_, rfl, _, _, rfl, rfl, .inr ⟨by decide, by decide⟩, .inl ⟨_, rfl, _, _, rfl, rfl, (show (0 : Int) < 2147483629 by decide), ?_⟩⟩
        refine ⟨_, rfl, .inl ⟨_, rfl, _, rfl, _, _, rfl, ?_⟩⟩
        rw [max1]
        refine ⟨_, _, rfl, rfl, by omega, ?_⟩
        exact last _ _ (f.trans f2) ⟨⟨ns, p + 1, _, tot, upd_same, f2.oth _ _ e2 (by simpa using ne), h3⟩, ne⟩
      · refine ⟨_, rfl, _, rfl, a, _, 2, 2, rfl, rfl, upd_same, rfl, ?_⟩
        have f3 : Fr [a] (upd H2 a (.lst [.ref s, .int ((p + 1 : Nat) : Int), .int big, .int tot])) (upd (upd H2 a (.lst [.ref s, .int ((p + 1 : Nat) : Int), .int big, .int tot])) a (.lst [.ref s, .int ((p + 1 : Nat) : Int), .int n, .int tot])) := Fr.put upd_same (List.mem_singleton.mpr rfl)
        exact rest _ _ _ (p + 1) n tot ((f.trans f2).trans f3) upd_same (f3.oth _ _ (f2.oth _ _ e2 (by simpa using ne)) (by simpa using ne))
    refine ⟨_, rfl, _, rfl, a, _, 0, _, rfl, rfl, sqL h1, at0, s, _, rfl, .inl (sqL h2), _, _, rfl, rfl, _, rfl, ?_⟩
    refine iteB (fun lt => ?_) fun ge => ?_
    · have lt' : p < ns.length := by
        have := of_decide_eq_true lt
        rw [List.length_map] at this
        omega
      have hg : (ns.map V.int)[p]? = some (.int ns[p]) := by rw [List.getElem?_map, List.getElem?_eq_getElem lt']; rfl
      refine ⟨_, rfl, a, _, 0, _, rfl, rfl, sqL h1, at0, _, rfl, s, _, _, _, rfl, rfl, sqL h2, atI_nat hg, .inl ⟨_, rfl, _, rfl, ?_⟩⟩
      exact mid H _ tot Fr.refl h1 h2
    · refine ⟨_, rfl, a, _, 3, _, rfl, rfl, sqL h1, at3, _, _, rfl, rfl, .inr ⟨by decide, by decide⟩, _, rfl, _, _, rfl, rfl, _, _, rfl, rfl, .inl ⟨_, rfl, _, _, rfl, rfl, (show (0 : Int) < 2147483647 by decide), ?_⟩⟩
      refine ⟨_, rfl, a, _, 3, 3, rfl, rfl, h1, rfl, ?_⟩
      have f2 : Fr [a] H (upd H a (.lst [.ref s, .int (p : Int), .int big, .int ((tot * 48271 + p + 1) % 2147483647)])) := Fr.put h1 (List.mem_singleton.mpr rfl)
      refine ⟨_, rfl, a, _, 3, _, rfl, rfl, sqL upd_same, at3, ?_⟩
      exact mid _ _ _ f2 upd_same (f2.oth _ _ h2 (by simpa using ne))
  · refine iteFb (decide_eq_false fun z => c (V.int.inj z)) ?_
    exact rest H _ _ p big tot Fr.refl h1 h2
theorem ok_draw (T : Txt K mg) : CalS R0 wd K mg base 1 "_law_draw" spDraw := by
  refine cal_s T.d_l_draw T.g_l_draw sc_l_draw (fun _ _ _ _ _ _ us hl => match us, hl with | [_, _], _ => rfl) (fun vs H Q E h => ?_) (fun cdv A outer s H vs Q E hr h => ⟨t_l_draw K E, ?_, pure_draw vs H Q E h⟩)
  · obtain ⟨a, s, m, rfl, _⟩ := h
    rfl
  · exact (pss_cons (ps_if (pt_cmpR op_eq (pe_ix ix_list (pv 0) pe_int (fun _ _ => rfl)) pe_int (nomark _)) (pss_cons (ps_set (i := 2) sc_l_draw.nd rfl (Or.inl rfl) (pe_ix ix_list (pv 0) pe_int (fun _ _ => rfl)))
      (pss_cons (ps_set (i := 3) sc_l_draw.nd rfl (Or.inl rfl) pe_int)
      (pss_cons (ps_if (pt_cmpR op_lt (pv 2) (pe_callB call_len_seq rfl T.f_len (by decide +kernel) (pa_cons (pe_ix ix_list (pv 0) pe_int (fun _ _ => rfl)) pa_nil)) (nomark _)) (pss_one (ps_set (i := 3) sc_l_draw.nd rfl (Or.inl rfl) (pe_callB call_abs rfl T.f_abs (by decide +kernel) (pa_cons (pe_callTy call_int1 rfl T.f_int (by decide +kernel) (pa_cons (pe_ix ix_list (pe_ix ix_list (pv 0) pe_int (fun _ _ => rfl)) (pv 2) (fun _ _ => rfl)) pa_nil)) pa_nil)))) (pss_cons (ps_asg (pe_op op_mod (pe_callTy call_int1 rfl T.f_int (by decide +kernel) (pa_cons (pe_op op_add (pe_op op_add (pe_op op_mul (pe_ix ix_list (pv 0) pe_int (fun _ _ => rfl)) pe_int) (pv 2)) pe_int) pa_nil)) pe_int) (pg_sub (pv 0) pe_int set_list))
      (pss_one (ps_set (i := 3) sc_l_draw.nd rfl (Or.inl rfl) (pe_ix ix_list (pv 0) pe_int (fun _ _ => rfl))))))
      (pss_cons (ps_asg (pe_op op_add (pv 2) pe_int) (pg_sub (pv 0) pe_int set_list))
      (pss_cons (ps_if (pt_cmpR op_lt (pv 3) (pe_op op_pow pe_int pe_int) (nomark _)) (pss_cons (ps_set (i := 3) sc_l_draw.nd rfl (Or.inl rfl) (pe_op op_mod (pe_callTy call_int1 rfl T.f_int (by decide +kernel) (pa_cons (pe_op op_add (pe_op op_add (pe_op op_mul (pv 3) pe_int) (pe_op op_mul (pv 2) pe_int)) pe_int) pa_nil)) pe_int))
      (pss_cons (ps_set (i := 3) sc_l_draw.nd rfl (Or.inl rfl) (pe_op op_mod (pe_callTy call_int1 rfl T.f_int (by decide +kernel) (pa_cons (pe_op op_mul (pv 3) pe_int) pa_nil)) pe_int))
      (pss_one (ps_ret (pe_op op_mod (pe_callTy call_int1 rfl T.f_int (by decide +kernel) (pa_cons (pv 3) pa_nil)) (pe_callB (call_max2 rfl) rfl T.f_max (by decide +kernel) (pa_cons (pv 1) (pa_cons pe_int pa_nil)))))))) pss_nil)
      (pss_one (ps_asg (pv 3) (pg_sub (pv 0) pe_int set_list)))))))) pss_nil)
      (pss_cons (ps_set (i := 3) sc_l_draw.nd rfl (Or.inl rfl) (pe_ix ix_list (pv 0) pe_int (fun _ _ => rfl)))
      (pss_cons (ps_asg (pe_op op_fdiv (pv 3) (pe_callB (call_max2 rfl) rfl T.f_max (by decide +kernel) (pa_cons (pv 1) (pa_cons pe_int pa_nil)))) (pg_sub (pv 0) pe_int set_list))
      (pss_one (ps_ret (pe_op op_mod (pe_callTy call_int1 rfl T.f_int (by decide +kernel) (pa_cons (pv 3) pa_nil)) (pe_callB (call_max2 rfl) rfl T.f_max (by decide +kernel) (pa_cons (pv 1) (pa_cons pe_int pa_nil)))))))))
end
end K18

/-! G2: names -/
namespace K18
open PySem PySem.Spec L2
open PyProof.Rows hiding St
theorem cd_app (a b : Str) : cd (a ++ b) = cd a ++ cd b := by
  obtain ⟨x⟩ := a
  obtain ⟨y⟩ := b
  show (x ++ y).toList = x.toList ++ y.toList
  simp
theorem len_app (a b : Str) : (a ++ b).length = a.length + b.length := by
  rw [str_len, str_len, str_len, cd_app, List.length_append]
theorem cutS_to (z : Str) {p : Nat} (h : p ≤ z.length) : cd (cutS z none (some (p : Int))) = (cd z).take p := by
  unfold cutS
  rw [HT.sIx_nat, HT.sIx_none, Nat.min_eq_left h, List.drop_zero, Nat.sub_zero, cd_mk]
theorem cutS_from (z : Str) {p : Nat} (h : p ≤ z.length) : cd (cutS z (some (p : Int)) none) = (cd z).drop p := by
  unfold cutS
  rw [HT.sIx_nat, HT.sIx_none, Nat.min_eq_left h, cd_mk, List.take_of_length_le (by rw [List.length_drop, ← str_len]; omega)]
/-- signs of words only; a letter first -/
def AW (l : List Nat) : Prop := ∀ x ∈ l, inS WC x = true
def HL (l : List Nat) : Prop := ∃ c, l.head? = some c ∧ inS LT c = true
theorem AW.app {a b : List Nat} (h1 : AW a) (h2 : AW b) : AW (a ++ b) := fun x hx => (List.mem_append.mp hx).elim (h1 x) (h2 x)
theorem HL.app {a b : List Nat} (h : HL a) : HL (a ++ b) := by
  obtain ⟨c, h1, h2⟩ := h
  exact ⟨c, by rw [List.head?_append, h1]; rfl, h2⟩
/-- a name as the law draws it -/
def GN (x : Str) : Prop := Wok (cd x) ∧ isNm x = true
theorem kd_HL {l : List Nat} (h : HL l) : kd l = "word" := by
  obtain ⟨c, h1, h2⟩ := h
  cases l with
  | nil => cases h1
  | cons d r =>
    cases h1
    exact if_pos h2
theorem wok_of {l : List Nat} (h1 : HL l) (h2 : AW l) (h3 : l.length ≤ 30) : Wok l := by
  obtain ⟨c, e, hc⟩ := h1
  cases l with
  | nil => cases e
  | cons d r =>
    cases e
    exact .word c r hc (fun x hx => h2 x (List.mem_cons_of_mem _ hx)) (by rw [List.length_cons] at h3; omega)
theorem gn_of {x : Str} (h1 : HL (cd x)) (h2 : AW (cd x)) (h3 : x.length ≤ 30) (h4 : x ∉ v_RESERVED) : GN x := by
  refine ⟨wok_of h1 h2 (by rw [← str_len]; exact h3), ?_⟩
  rw [isNm_eq, kd_HL h1, inV_str, decide_eq_false h4]
  decide +kernel
def ST4 : List Str := ["", "", "sharedStem", "while_x"]
theorem st4 : ∀ x ∈ ST4, AW (cd x) ∧ (x = "" ∨ HL (cd x)) ∧ x.length ≤ 10 := by
  have h : ∀ x ∈ ST4, (∀ c ∈ cd x, inS WC c = true) ∧ (x = "" ∨ ((cd x).head?.map (inS LT)) = some true) ∧ x.length ≤ 10 := by decide +kernel
  intro x hx
  obtain ⟨a, b, c⟩ := h x hx
  refine ⟨a, b.imp id fun e => ?_, c⟩
  obtain ⟨d, e1, e2⟩ := Option.map_eq_some_iff.mp e
  exact ⟨d, e1, e2⟩
theorem res12 : ∀ x ∈ v_RESERVED, AW (cd x) ∧ HL (cd x) ∧ AW (cd (cutS x none (some (-1)))) ∧ HL (cd (cutS x none (some (-1)))) ∧ x.length ≤ 8 ∧ (cutS x none (some (-1))).length ≤ 8 := by
  have h : ∀ x ∈ v_RESERVED, (∀ c ∈ cd x, inS WC c = true) ∧ ((cd x).head?.map (inS LT)) = some true ∧ (∀ c ∈ cd (cutS x none (some (-1))), inS WC c = true) ∧ ((cd (cutS x none (some (-1)))).head?.map (inS LT)) = some true ∧ x.length ≤ 8 ∧ (cutS x none (some (-1))).length ≤ 8 := by decide +kernel
  intro x hx
  obtain ⟨a, b, c, d, e, f⟩ := h x hx
  obtain ⟨b1, b2, b3⟩ := Option.map_eq_some_iff.mp b
  obtain ⟨d1, d2, d3⟩ := Option.map_eq_some_iff.mp d
  exact ⟨a, ⟨b1, b2, b3⟩, c, ⟨d1, d2, d3⟩, e, f⟩
theorem sign_at {m r : Nat} (hm : m ≤ 63) (hr : r < max m 1) (h1 : 1 ≤ m) : ∃ c, atI (cd WC) (r : Int) = some c ∧ inS WC c = true ∧ (m ≤ 52 → inS LT c = true) := by
  have h : ∀ r < 63, ∃ c, (cd WC)[r]? = some c ∧ inS WC c = true ∧ (r < 52 → inS LT c = true) := by
    have h : ∀ r < 63, ((cd WC)[r]?.map fun c => inS WC c && (decide (52 ≤ r) || inS LT c)) = some true := by decide +kernel
    intro r hr
    obtain ⟨c, e, e2⟩ := Option.map_eq_some_iff.mp (h r hr)
    refine ⟨c, e, (Bool.and_eq_true_iff.mp e2).1, fun l => ?_⟩
    rcases Bool.or_eq_true_iff.mp (Bool.and_eq_true_iff.mp e2).2 with z | z
    · have := of_decide_eq_true z
      omega
    · exact z
  obtain ⟨c, e, a, b⟩ := h r (by omega)
  exact ⟨c, atI_nat e, a, fun z => b (by omega)⟩
theorem g_draw {σ : L2.St} {H : Hp} {Q : VK} {E : XK} {a s : Addr} (m : Nat) {i : Int} (h0 : σ[0]? = some (some (.ref a))) (t : TpS H a s) (q : ∀ H' (r : Nat), Fr [a] H H' → TpS H' a s → r < max m 1 → Q (.int (r : Int)) H') (hi : i = (m : Int) := by rfl) (hm : m ≤ 1000000 := by decide) :
    tCal spDraw E (tCons (tVar 0) (tCons (tC (.int i)) tNil)) σ H Q := by
  subst hi
  exact ⟨_, h0, a, s, m, rfl, hm, t, q⟩
def spNames : Sp := fun vs H Q _ => ∃ (a s : Addr) (m : Nat), vs = [.ref a, .int (m : Int)] ∧ 1 ≤ m ∧ m ≤ 4 ∧ TpS H a s ∧ ∀ H' l (nms : List Str), Fr [a] H H' → TpS H' a s → H l = none → H' l = some (.lst (nms.map V.str)) → nms.length = m → (∀ x ∈ nms, GN x) → Q (.ref l) H'
abbrev N_l_names : List Str := ["_law_tape_here", "_law_many", "_law_signs", "_law_words", "_law_stem", "_law_place", "_law_names_here", "_law_k", "_law_name", "_law_j", "_law_choice"]
theorem sc_l_names : FnScope N_l_names ["_law_tape_here", "_law_many"] (defScope s_l_names) := ⟨rfl, rfl, rfl, by decide +kernel, rfl, by decide +kernel, by decide +kernel⟩
def t_l_names (K : PySem.W.Frag) (E : XK)  : TS :=
  (tSeq (tAsg (tC (.str "abcdefghijklmnopqrstuvwxyzABCDEFGHIJKLMNOPQRSTUVWXYZ0123456789_")) (gName 2))
  (tSeq (tAsg (tLst (tCons (tC (.str "let")) (tCons (tC (.str "if")) (tCons (tC (.str "else")) (tCons (tC (.str "while")) (tCons (tC (.str "for")) (tCons (tC (.str "break")) (tCons (tC (.str "continue")) (tCons (tC (.str "return")) (tCons (tC (.str "try")) (tCons (tC (.str "finally")) (tCons (tC (.str "true")) (tCons (tC (.str "false")) tNil))))))))))))) (gName 3))
  (tSeq (tAsg (tOp (rIxL K) (tLst (tCons (tC (.str "")) (tCons (tC (.str "")) (tCons (tC (.str "sharedStem")) (tCons (tC (.str "while_x")) tNil))))) (tCal spDraw E (tCons (tVar 0) (tCons (tC (.int 4)) tNil)))) (gName 4))
  (tSeq (tAsg (tCal spDraw E (tCons (tVar 0) (tCons (tOp rAddI (tCB rLenT (tCons (tVar 4) tNil)) (tC (.int 1))) tNil))) (gName 5))
  (tSeq (tAsg (tLst tNil) (gName 6))
  (tSeq (tFor (iRng1 (tCons (tVar 1) tNil)) (gName 7) (tSeq (tAsg (tOp rAddT (tOp rAddT (tSl rSlS (tVar 4) tNoPart (tPart (tVar 5))) (tOp rIxS (tVar 2) (tCal spDraw E (tCons (tVar 0) (tCons (tC (.int 52)) tNil))))) (tSl rSlS (tVar 4) (tPart (tVar 5)) tNoPart)) (gName 8))
  (tSeq (tFor (iRng1 (tCons (tOp (rIxL K) (tLst (tCons (tC (.int 0)) (tCons (tC (.int 0)) (tCons (tC (.int 0)) (tCons (tC (.int 1)) (tCons (tC (.int 2)) (tCons (tC (.int 6)) tNil))))))) (tCal spDraw E (tCons (tVar 0) (tCons (tC (.int 6)) tNil)))) tNil)) (gName 9) (tAsg (tOp rAddT (tVar 8) (tOp rIxS (tVar 2) (tCal spDraw E (tCons (tVar 0) (tCons (tC (.int 63)) tNil))))) (gName 8)))
  (tSeq (tAsg (tCal spDraw E (tCons (tVar 0) (tCons (tC (.int 16)) tNil))) (gName 10))
  (tSeq (tIfS (tTest (tOp rEq (tVar 10) (tC (.int 0)))) (tAsg (tOp rAddT (tVar 8) (tOp rMulS (tC (.str "x")) (tOp rSubI (tC (.int 30)) (tCB rLenT (tCons (tVar 8) tNil))))) (gName 8)) tNext)
  (tSeq (tIfS (tTest (tOp rEq (tVar 10) (tC (.int 1)))) (tAsg (tOp rAddT (tOp (rIxL K) (tVar 3) (tCal spDraw E (tCons (tVar 0) (tCons (tC (.int 12)) tNil)))) (tSl rSlS (tVar 8) tNoPart (tPart (tC (.int 1))))) (gName 8)) tNext)
  (tSeq (tIfS (tTest (tOp rEq (tVar 10) (tC (.int 2)))) (tAsg (tSl rSlS (tOp (rIxL K) (tVar 3) (tCal spDraw E (tCons (tVar 0) (tCons (tC (.int 12)) tNil)))) tNoPart (tPart (tUn rNegI (tC (.int 1))))) (gName 8)) tNext)
  (tSeq (tIfS (tOr (tTest (tOp (rIn K false) (tVar 8) (tVar 3))) (tTest (tOp (rIn K false) (tVar 8) (tVar 6)))) (tAsg (tOp rAddT (tC (.str "one_of_two_equal_names_")) (tCB rStrA (tCons (tVar 7) tNil))) (gName 8)) tNext)
  (tDrop (tBM K "list" rAppend (tVar 6) (tCons (tVar 8) tNil)))))))))))
  (tRet (tVar 6))))))))
section
variable {wd : World} {K : PySem.W.Frag} {mg : Str → Option Value} {base : Heap} {w : Rw}
/-- the lists of a call of names: the words, the names found -/
structure NmP (a s l3 l6 : Addr) (H H' : Hp) (nms : List Str) : Prop where
  fr : Fr [a] H H'
  tp : TpS H' a s
  h3 : H' l3 = some (.lst (v_RESERVED.map V.str))
  h6 : H' l6 = some (.lst (nms.map V.str))
  n3 : l3 ≠ a ∧ l3 ≠ s
  n6 : l6 ≠ a ∧ l6 ≠ s
  n36 : l3 ≠ l6
  none6 : H l6 = none
theorem NmP.step {a s l3 l6 : Addr} {H H1 H2 : Hp} {nms : List Str} (N : NmP a s l3 l6 H H1 nms) (f : Fr [a] H1 H2) (t : TpS H2 a s) : NmP a s l3 l6 H H2 nms :=
  ⟨N.fr.trans f, t, f.oth _ _ N.h3 (by simpa using N.n3.1), f.oth _ _ N.h6 (by simpa using N.n6.1), N.n3, N.n6, N.n36, N.none6⟩
theorem NmP.new {a s l3 l6 p : Addr} {o : HO} {H H1 : Hp} {nms : List Str} (N : NmP a s l3 l6 H H1 nms) (hp : H1 p = none) : NmP a s l3 l6 H (upd H1 p o) nms :=
  N.step ((Fr.new hp).mono (M := []) (by simp)) (N.tp.fr0 (Fr.new hp))
theorem ok_names_t (T : Txt K mg) : True := trivial
end
end K18

/-! G3: names, the steps -/
namespace K18
open PySem PySem.Spec L2
open PyProof.Rows hiding St

def tnH (K : PySem.W.Frag) : TS := tDrop (tBM K "list" rAppend (tVar 6) (tCons (tVar 8) tNil))
def tnG (K : PySem.W.Frag) : TS := tSeq (tIfS (tOr (tTest (tOp (rIn K false) (tVar 8) (tVar 3))) (tTest (tOp (rIn K false) (tVar 8) (tVar 6)))) (tAsg (tOp rAddT (tC (.str "one_of_two_equal_names_")) (tCB rStrA (tCons (tVar 7) tNil))) (gName 8)) tNext) (tnH K)
def tnF (K : PySem.W.Frag) (E : XK) : TS := tSeq (tIfS (tTest (tOp rEq (tVar 10) (tC (.int 2)))) (tAsg (tSl rSlS (tOp (rIxL K) (tVar 3) (tCal spDraw E (tCons (tVar 0) (tCons (tC (.int 12)) tNil)))) tNoPart (tPart (tUn rNegI (tC (.int 1))))) (gName 8)) tNext) (tnG K)
def tnE (K : PySem.W.Frag) (E : XK) : TS := tSeq (tIfS (tTest (tOp rEq (tVar 10) (tC (.int 1)))) (tAsg (tOp rAddT (tOp (rIxL K) (tVar 3) (tCal spDraw E (tCons (tVar 0) (tCons (tC (.int 12)) tNil)))) (tSl rSlS (tVar 8) tNoPart (tPart (tC (.int 1))))) (gName 8)) tNext) (tnF K E)
def tnD (K : PySem.W.Frag) (E : XK) : TS := tSeq (tIfS (tTest (tOp rEq (tVar 10) (tC (.int 0)))) (tAsg (tOp rAddT (tVar 8) (tOp rMulS (tC (.str "x")) (tOp rSubI (tC (.int 30)) (tCB rLenT (tCons (tVar 8) tNil))))) (gName 8)) tNext) (tnE K E)
theorem resv_len : v_RESERVED.length = 12 := by decide +kernel
def CN6 : List Int := [0, 0, 0, 1, 2, 6]
theorem flat_strs (l : List Str) : (l.map V.str).all flatV = true := by
  rw [List.all_map]
  exact List.all_eq_true.mpr fun _ _ => rfl
section
variable {wd : World} {K : PySem.W.Frag} {mg : Str → Option Value} {base : Heap} {w : Rw}
/-- where a name is finished -/
def NmQ (a s l3 l6 : Addr) (H : Hp) (m : Nat) (st : Str) (p k : Nat) : L2.St → Hp → Prop := fun σ H' => ∃ (nms : List Str) (p7 p8 p9 p10 : Option V), σ = [some (.ref a), some (.int (m : Int)), some (.str WC), some (.ref l3), some (.str st), some (.int (p : Int)), some (.ref l6), p7, p8, p9, p10] ∧ NmP a s l3 l6 H H' nms ∧ nms.length = k ∧ ∀ x ∈ nms, GN x
section
variable {a s l3 l6 : Addr} {H H' : Hp} {m p k : Nat} {st x : Str} {nms : List Str} {p9 p10 : Option V} {D : Ends} {E : XK}
theorem nm_h (N : NmP a s l3 l6 H H' nms) (hk : nms.length = k) (hk4 : k < 4) (hg : ∀ y ∈ nms, GN y) (hx : GN x) (hD : D.nx = NmQ a s l3 l6 H m st p (k + 1)) :
    tnH K D [some (.ref a), some (.int (m : Int)), some (.str WC), some (.ref l3), some (.str st), some (.int (p : Int)), some (.ref l6), some (.int (0 + (k : Int))), some (.str x), p9, p10] H' := by
  refine ⟨_, rfl, .inl ⟨rfl, _, sqL N.h6⟩, _, rfl, l6, _, _, rfl, rfl, N.h6, mil2 (by rw [List.length_map]; omega), ?_⟩
  have f2 : Fr [l6] H' (upd H' l6 (.lst (nms.map V.str ++ [.str x]))) := Fr.put N.h6 (List.mem_singleton.mpr rfl)
  rw [hD]
  refine ⟨nms ++ [x], _, _, _, _, rfl, ⟨N.fr.out N.none6, N.tp.fr f2 (by simpa using Ne.symm N.n6.1) (by simpa using Ne.symm N.n6.2), f2.oth _ _ N.h3 (by simpa using N.n36), ?_, N.n3, N.n6, N.n36, N.none6⟩, by rw [List.length_append, List.length_singleton, hk], fun y hy => ?_⟩
  · rw [upd_same, List.map_append]
    rfl
  · rcases List.mem_append.mp hy with hy | hy
    · exact hg y hy
    · rw [List.mem_singleton.mp hy]
      exact hx
theorem one_of (k : Nat) (h : k < 4) : GN ("one_of_two_equal_names_" ++ toString (0 + (k : Int)) : Str) ∧ (0 + (k : Int)).natAbs.log2 < 1920 := by
  have e : ∀ k : Nat, k < 4 → ((cd ("one_of_two_equal_names_" ++ toString (0 + (k : Int)) : Str)).head?.map (inS LT)) = some true ∧ (∀ c ∈ cd ("one_of_two_equal_names_" ++ toString (0 + (k : Int)) : Str), inS WC c = true) ∧ ("one_of_two_equal_names_" ++ toString (0 + (k : Int)) : Str).length ≤ 30 ∧ ("one_of_two_equal_names_" ++ toString (0 + (k : Int)) : Str) ∉ v_RESERVED ∧ (0 + (k : Int)).natAbs.log2 < 1920 := by decide +kernel
  obtain ⟨a, b, c, d, f⟩ := e k h
  obtain ⟨x, e1, e2⟩ := Option.map_eq_some_iff.mp a
  exact ⟨gn_of ⟨x, e1, e2⟩ b c d, f⟩
theorem nm_g (N : NmP a s l3 l6 H H' nms) (hk : nms.length = k) (hk4 : k < 4) (hg : ∀ y ∈ nms, GN y) (h1 : HL (cd x)) (h2 : AW (cd x)) (h3 : x.length ≤ 30) (hD : D.nx = NmQ a s l3 l6 H m st p (k + 1)) :
    tnG K D [some (.ref a), some (.int (m : Int)), some (.str WC), some (.ref l3), some (.str st), some (.int (p : Int)), some (.ref l6), some (.int (0 + (k : Int))), some (.str x), p9, p10] H' := by
  obtain ⟨o1, o2⟩ := one_of k hk4
  have alt : tAsg (tOp rAddT (tC (.str "one_of_two_equal_names_")) (tCB rStrA (tCons (tVar 7) tNil))) (gName 8) { D with nx := tnH K D } [some (.ref a), some (.int (m : Int)), some (.str WC), some (.ref l3), some (.str st), some (.int (p : Int)), some (.ref l6), some (.int (0 + (k : Int))), some (.str x), p9, p10] H' := by
    refine ⟨_, rfl, .inr ⟨_, rfl, o2, _, _, rfl, rfl, ?_, ?_⟩⟩
    · have := o1.1
      have z : ("one_of_two_equal_names_" ++ toString (0 + (k : Int)) : Str).length ≤ 1000000 := by
        have e : ∀ k : Nat, k < 4 → ("one_of_two_equal_names_" ++ toString (0 + (k : Int)) : Str).length ≤ 1000000 := by decide +kernel
        exact e k hk4
      rw [len_app] at z
      exact mil z
    · exact nm_h N hk hk4 hg o1 hD
  refine ⟨_, rfl, _, rfl, l3, _, rfl, .inl (sqL N.h3), rfl, flat_strs _, _, rfl, ?_⟩
  by_cases c : x ∈ v_RESERVED
  · refine iteTb (by show inV (.str x) (v_RESERVED.map V.str) = true; rw [inV_str, decide_eq_true c]) (iteT alt)
  · refine iteFb (by show inV (.str x) (v_RESERVED.map V.str) = false; rw [inV_str, decide_eq_false c]) ?_
    refine ⟨_, rfl, _, rfl, l6, _, rfl, .inl (sqL N.h6), rfl, flat_strs _, _, rfl, ?_⟩
    refine iteB (fun _ => alt) fun _ => ?_
    exact nm_h N hk hk4 hg (gn_of h1 h2 h3 c) hD
theorem res_at {r : Nat} (h : r < max 12 1) : ∃ y, (v_RESERVED.map V.str)[r]? = some (.str y) ∧ y ∈ v_RESERVED := by
  have hl := resv_len
  have lt : r < v_RESERVED.length := by omega
  exact ⟨v_RESERVED[r], by rw [List.getElem?_map, List.getElem?_eq_getElem lt]; rfl, List.getElem_mem lt⟩
theorem nm_f (N : NmP a s l3 l6 H H' nms) (hk : nms.length = k) (hk4 : k < 4) (hg : ∀ y ∈ nms, GN y) (h1 : HL (cd x)) (h2 : AW (cd x)) (h3 : x.length ≤ 30) {q : Int} (hD : D.nx = NmQ a s l3 l6 H m st p (k + 1)) :
    tnF K E D [some (.ref a), some (.int (m : Int)), some (.str WC), some (.ref l3), some (.str st), some (.int (p : Int)), some (.ref l6), some (.int (0 + (k : Int))), some (.str x), p9, some (.int q)] H' := by
  refine ⟨_, rfl, rfl, _, rfl, ?_⟩
  refine iteB (fun _ => ?_) fun _ => nm_g N hk hk4 hg h1 h2 h3 hD
  refine ⟨_, rfl, g_draw 12 rfl N.tp fun H2 r f2 t2 hr => ?_⟩
  obtain ⟨y, e, hy⟩ := res_at hr
  obtain ⟨_, _, r3, r4, r5, r6⟩ := res12 y hy
  have N2 := N.step f2 t2
  refine ⟨l3, _, _, _, rfl, rfl, sqL N2.h3, atI_nat e, _, rfl, _, rfl, y, rfl, mil (by omega), ?_⟩
  exact nm_g N2 hk hk4 hg r4 r3 (by show (cutS y none (some (-1))).length ≤ 30; omega) hD
theorem nm_e (N : NmP a s l3 l6 H H' nms) (hk : nms.length = k) (hk4 : k < 4) (hg : ∀ y ∈ nms, GN y) (h1 : HL (cd x)) (h2 : AW (cd x)) (h3 : x.length ≤ 30) {q : Int} (hD : D.nx = NmQ a s l3 l6 H m st p (k + 1)) :
    tnE K E D [some (.ref a), some (.int (m : Int)), some (.str WC), some (.ref l3), some (.str st), some (.int (p : Int)), some (.ref l6), some (.int (0 + (k : Int))), some (.str x), p9, some (.int q)] H' := by
  refine ⟨_, rfl, rfl, _, rfl, ?_⟩
  refine iteB (fun _ => ?_) fun _ => nm_f N hk hk4 hg h1 h2 h3 hD
  refine ⟨_, rfl, g_draw 12 rfl N.tp fun H2 r f2 t2 hr => ?_⟩
  obtain ⟨y, e, hy⟩ := res_at hr
  obtain ⟨r1, r2, _, _, r5, _⟩ := res12 y hy
  have N2 := N.step f2 t2
  have h0 : 1 ≤ x.length := by
    obtain ⟨c, e, _⟩ := h1
    rw [str_len]
    cases hc : cd x with
    | nil => rw [hc] at e; cases e
    | cons d t => rw [List.length_cons]; omega
  have hcut : cd (cutS x none (some ((1 : Nat) : Int))) = (cd x).take 1 := cutS_to x h0
  have hlen : (cutS x none (some ((1 : Nat) : Int))).length ≤ 1 := by
    rw [str_len, hcut, List.length_take]
    omega
  refine ⟨l3, _, _, _, rfl, rfl, sqL N2.h3, atI_nat e, _, rfl, _, rfl, x, rfl, mil (by omega), _, _, rfl, rfl, mil (by show y.length + (cutS x none (some ((1 : Nat) : Int))).length ≤ 1000000; omega), ?_⟩
  refine nm_f (x := y ++ cutS x none (some ((1 : Nat) : Int))) N2 hk hk4 hg ?_ ?_ ?_ hD
  · rw [cd_app]
    exact r2.app
  · rw [cd_app, hcut]
    exact r1.app fun z hz => h2 z (List.mem_of_mem_take hz)
  · rw [len_app]
    omega
theorem nm_d (N : NmP a s l3 l6 H H' nms) (hk : nms.length = k) (hk4 : k < 4) (hg : ∀ y ∈ nms, GN y) (h1 : HL (cd x)) (h2 : AW (cd x)) (h3 : x.length ≤ 20) {q : Int} (hD : D.nx = NmQ a s l3 l6 H m st p (k + 1)) :
    tnD K E D [some (.ref a), some (.int (m : Int)), some (.str WC), some (.ref l3), some (.str st), some (.int (p : Int)), some (.ref l6), some (.int (0 + (k : Int))), some (.str x), p9, some (.int q)] H' := by
  refine ⟨_, rfl, rfl, _, rfl, ?_⟩
  refine iteB (fun _ => ?_) fun _ => nm_e N hk hk4 hg h1 h2 (by omega) hD
  have hcd : cd ("x" : Str) = [120] := by decide +kernel
  have hrep : (List.replicate ((30 : Int) - (x.length : Int)).toNat (cd ("x" : Str))).flatten = List.replicate (30 - x.length) 120 := by
    rw [hcd, show ((30 : Int) - (x.length : Int)).toNat = 30 - x.length by omega]
    generalize 30 - x.length = n
    induction n with
    | zero => rfl
    | succ n ih => rw [List.replicate_succ, List.flatten_cons, ih]; rfl
  refine ⟨_, rfl, _, rfl, x, rfl, mil (by omega), _, _, rfl, rfl, _, _, rfl, rfl, by omega, by omega, by decide +kernel, ?_⟩
  have hl : cd (⟨(List.replicate ((30 : Int) - (x.length : Int)).toNat (cd ("x" : Str))).flatten.toArray⟩ : Str) = List.replicate (30 - x.length) 120 := by rw [cd_mk, hrep]
  have hyl : (⟨(List.replicate ((30 : Int) - (x.length : Int)).toNat (cd ("x" : Str))).flatten.toArray⟩ : Str).length = 30 - x.length := by rw [str_len, hl, List.length_replicate]
  refine ⟨_, _, rfl, rfl, mil (Nat.le_trans (Nat.le_of_eq (congrArg (x.length + ·) hyl)) (by show x.length + (30 - x.length) ≤ 1000000; omega)), ?_⟩
  refine nm_e N hk hk4 hg ?_ ?_ ?_ hD
  · rw [cd_app]
    exact h1.app
  · rw [cd_app, hl]
    exact h2.app fun z hz => by
      rw [List.eq_of_mem_replicate hz]
      decide +kernel
  · rw [len_app, hyl]
    omega
end
end
end K18

/-! G4: names -/
namespace K18
open PySem PySem.Spec L2
open PyProof.Rows hiding St

def tnB (K : PySem.W.Frag) (E : XK) : TS := tFor (iRng1 (tCons (tOp (rIxL K) (tLst (tCons (tC (.int 0)) (tCons (tC (.int 0)) (tCons (tC (.int 0)) (tCons (tC (.int 1)) (tCons (tC (.int 2)) (tCons (tC (.int 6)) tNil))))))) (tCal spDraw E (tCons (tVar 0) (tCons (tC (.int 6)) tNil)))) tNil)) (gName 9) (tAsg (tOp rAddT (tVar 8) (tOp rIxS (tVar 2) (tCal spDraw E (tCons (tVar 0) (tCons (tC (.int 63)) tNil))))) (gName 8))
theorem cn6 {r : Nat} (h : r < max 6 1) : ∃ n : Int, (CN6.map V.int)[r]? = some (.int n) ∧ 0 ≤ n ∧ n ≤ 6 := by
  have e : ∀ r < 6, ((CN6[r]?).map fun n => decide (0 ≤ n ∧ n ≤ 6)) = some true := by decide
  obtain ⟨n, e1, e2⟩ := Option.map_eq_some_iff.mp (e r (by omega))
  have := of_decide_eq_true e2
  exact ⟨n, by rw [List.getElem?_map, e1]; rfl, this.1, this.2⟩
section
variable {wd : World} {K : PySem.W.Frag} {mg : Str → Option Value} {base : Heap} {w : Rw}
theorem nm_b {a s l3 l6 : Addr} {H H' : Hp} {m p k : Nat} {st x : Str} {nms : List Str} {p9 p10 : Option V} {D : Ends} {E : XK} (N : NmP a s l3 l6 H H' nms) (hk : nms.length = k) (hk4 : k < 4) (hg : ∀ y ∈ nms, GN y) (h1 : HL (cd x)) (h2 : AW (cd x)) (h3 : x.length ≤ 11) (hD : D.nx = NmQ a s l3 l6 H m st p (k + 1)) :
    tSeq (tnB K E) (tSeq (tAsg (tCal spDraw E (tCons (tVar 0) (tCons (tC (.int 16)) tNil))) (gName 10)) (tnD K E)) D [some (.ref a), some (.int (m : Int)), some (.str WC), some (.ref l3), some (.str st), some (.int (p : Int)), some (.ref l6), some (.int (0 + (k : Int))), some (.str x), p9, p10] H' := by
  refine ⟨(show 6 ≤ sizeLine by decide), fun l9 hl9 => ?_⟩
  have N1 := N.new (o := .lst (CN6.map V.int)) hl9
  have n9 := N.tp.nea hl9
  refine g_draw 6 rfl N1.tp fun H2 r f2 t2 hr => ?_
  obtain ⟨n, e, hn0, hn6⟩ := cn6 hr
  have N2 := N1.step f2 t2
  have h9 : H2 l9 = some (.lst (CN6.map V.int)) := f2.oth _ _ upd_same (by simpa using n9.1)
  refine ⟨l9, _, _, _, rfl, rfl, sqL h9, atI_nat e, _, rfl, by omega, by omega, ?_⟩
  refine for_range (fun j σ H' => ∃ (x : Str) (p9 : Option V), σ = [some (.ref a), some (.int (m : Int)), some (.str WC), some (.ref l3), some (.str st), some (.int (p : Int)), some (.ref l6), some (.int (0 + (k : Int))), some (.str x), p9, p10] ∧ NmP a s l3 l6 H H' nms ∧ HL (cd x) ∧ AW (cd x) ∧ x.length ≤ 11 + j) ⟨x, p9, rfl, N2, h1, h2, h3⟩ ?_ ?_
  · rintro j σ H3 hj ⟨y, p9, rfl, N3, g1, g2, g3⟩
    refine ⟨_, rfl, _, rfl, g_draw 63 rfl N3.tp fun H4 r f4 t4 hr => ?_⟩
    obtain ⟨c, e, c1, c2⟩ := sign_at (m := 63) (by omega) hr (by omega)
    refine ⟨WC, _, c, rfl, rfl, by decide +kernel, e, _, _, rfl, rfl, mil (by show y.length + 1 ≤ 1000000; omega), ?_⟩
    refine ⟨y ++ ⟨#[c]⟩, _, rfl, N3.step f4 t4, ?_, ?_, ?_⟩
    · rw [cd_app]
      exact g1.app
    · rw [cd_app]
      exact g2.app fun z hz => by rw [List.mem_singleton.mp hz]; exact c1
    · rw [len_app]
      show y.length + 1 ≤ _
      omega
  · rintro σ H3 ⟨y, p9, rfl, N3, g1, g2, g3⟩
    refine g_draw 16 rfl N3.tp fun H4 r f4 t4 hr => ?_
    exact nm_d (N3.step f4 t4) hk hk4 hg g1 g2 (by omega) hD
theorem st_at {r : Nat} (h : r < max 4 1) : ∃ y, (ST4.map V.str)[r]? = some (.str y) ∧ y ∈ ST4 := by
  have lt : r < ST4.length := by show r < 4; omega
  exact ⟨ST4[r], by rw [List.getElem?_map, List.getElem?_eq_getElem lt]; rfl, List.getElem_mem lt⟩
theorem pure_names (vs : List V) (H : Hp) (Q : VK) (E : XK) (h : spNames vs H Q E) : t_l_names K E { nx := fun _ H' => Q .non H', rt := Q } (start N_l_names vs) H := by
  obtain ⟨a, s, m, rfl, hm1, hm4, tp, q⟩ := h
  refine ⟨(show 12 ≤ sizeLine by decide), fun l3 hl3 => ?_⟩
  have f1 : Fr [] H (upd H l3 (.lst (v_RESERVED.map V.str))) := Fr.new hl3
  have tp1 := tp.fr0 f1
  have n3 := tp.nea hl3
  refine ⟨(show 4 ≤ sizeLine by decide), fun l4 hl4 => ?_⟩
  have f2 : Fr [] (upd H l3 (.lst (v_RESERVED.map V.str))) (upd (upd H l3 (.lst (v_RESERVED.map V.str))) l4 (.lst (ST4.map V.str))) := Fr.new hl4
  have n4 := tp1.nea hl4
  refine g_draw 4 rfl (tp1.fr0 f2) fun H3 r f3 tp3 hr => ?_
  obtain ⟨st, e, hst⟩ := st_at hr
  obtain ⟨s1, s2, s3⟩ := st4 st hst
  have h43 : H3 l4 = some (.lst (ST4.map V.str)) := f3.oth _ _ upd_same (by simpa using n4.1)
  refine ⟨l4, _, _, _, rfl, rfl, sqL h43, atI_nat e, ?_⟩
  refine ⟨_, rfl, _, rfl, st, rfl, mil (by omega), _, _, rfl, rfl, a, s, st.length + 1, rfl, by omega, tp3, fun H4 p f4 tp4 hp => ?_⟩
  refine ⟨Nat.zero_le _, fun l6 hl6 => ?_⟩
  have f5 : Fr [] H4 (upd H4 l6 (.lst [])) := Fr.new hl6
  have h34 : H4 l3 = some (.lst (v_RESERVED.map V.str)) := f4.oth _ _ (f3.oth _ _ (f2.oth _ _ upd_same (by simp)) (by simpa using n3.1)) (by simpa using n3.1)
  have n6 := tp4.nea hl6
  have n36 : l3 ≠ l6 := ne_of_none h34 hl6
  have fH : Fr [a] H H4 := ((f1.trans f2).mono (by simp)).trans (f3.trans f4)
  have N0 : NmP a s l3 l6 H (upd H4 l6 (.lst [])) [] := ⟨fH.trans (f5.mono (by simp)), tp4.fr0 f5, f5.oth _ _ h34 (by simp), upd_same, n3, n6, n36, fH.none_of hl6 (by simpa using n6.1)⟩
  refine ⟨_, rfl, _, rfl, by omega, by omega, ?_⟩
  rw [Int.toNat_natCast]
  refine for_range (NmQ a s l3 l6 H m st p) ⟨[], none, none, none, none, rfl, N0, rfl, fun x hx => by simp at hx⟩ ?_ ?_
  · rintro k σ H5 hk ⟨nms, p7, p8, p9, p10, rfl, N, hl, hg⟩
    have hp' : p ≤ st.length := by omega
    refine ⟨_, rfl, _, rfl, _, rfl, st, rfl, mil (by omega), _, rfl, g_draw 52 rfl N.tp fun H6 r f6 t6 hr => ?_⟩
    obtain ⟨c, e, c1, c2⟩ := sign_at (m := 52) (by omega) hr (by omega)
    have hc := c2 (by omega)
    have e1 := cutS_to st hp'
    have e2 := cutS_from st hp'
    have l1 : (cutS st none (some (p : Int))).length ≤ 10 := by rw [str_len, e1, List.length_take, ← str_len]; omega
    have l2 : (cutS st none (some (p : Int))).length + (cutS st (some (p : Int)) none).length ≤ 10 := by
      rw [str_len, str_len, e1, e2, List.length_take, List.length_drop, ← str_len]
      omega
    refine ⟨WC, _, c, rfl, rfl, by decide +kernel, e, _, _, rfl, rfl, mil (by show _ + 1 ≤ 1000000; omega), _, rfl, _, rfl, _, rfl, st, rfl, mil (by omega), _, _, rfl, rfl, mil (by rw [len_app]; show _ + 1 + _ ≤ 1000000; omega), ?_⟩
    refine nm_b (N.step f6 t6) hl (by omega) hg ?_ ?_ ?_ rfl
    · rw [cd_app, cd_app, e1, e2]
      rcases s2 with z | z
      · have : cd st = [] := by rw [z]; decide +kernel
        rw [this, List.take_nil, List.drop_nil]
        exact ⟨c, rfl, hc⟩
      · cases p with
        | zero => exact ⟨c, rfl, hc⟩
        | succ p =>
          obtain ⟨d, g1, g2⟩ := z
          cases hcd : cd st with
          | nil => rw [hcd] at g1; cases g1
          | cons d' t' =>
            rw [hcd] at g1
            cases g1
            exact ⟨d, rfl, g2⟩
    · rw [cd_app, cd_app, e1, e2]
      refine AW.app (AW.app (fun z hz => s1 z (List.mem_of_mem_take hz)) fun z hz => ?_) fun z hz => s1 z (List.mem_of_mem_drop hz)
      rw [List.mem_singleton.mp hz]
      exact c1
    · rw [len_app, len_app]
      show _ + 1 + _ ≤ 11
      omega
  · rintro σ H5 ⟨nms, p7, p8, p9, p10, rfl, N, hl, hg⟩
    exact ⟨_, rfl, q H5 l6 nms N.fr N.tp N.none6 N.h6 hl hg⟩
theorem ok_names (T : Txt K mg) : CalS R0 wd K mg base 2 "_law_names" spNames := by
  refine cal_s T.d_l_names T.g_l_names sc_l_names (fun _ _ _ _ _ _ us hl => match us, hl with | [_, _], _ => rfl) (fun vs H Q E h => ?_) (fun cdv A outer s H vs Q E hr h => ⟨t_l_names K E, ?_, pure_names vs H Q E h⟩)
  · obtain ⟨a, s, m, rfl, _⟩ := h
    rfl
  · exact (pss_cons (ps_set (i := 2) sc_l_names.nd rfl (Or.inl rfl) pe_str)
      (pss_cons (ps_set (i := 3) sc_l_names.nd rfl (Or.inl rfl) (pe_lst (pa_cons pe_str (pa_cons pe_str (pa_cons pe_str (pa_cons pe_str (pa_cons pe_str (pa_cons pe_str (pa_cons pe_str (pa_cons pe_str (pa_cons pe_str (pa_cons pe_str (pa_cons pe_str (pa_cons pe_str pa_nil))))))))))))))
      (pss_cons (ps_set (i := 4) sc_l_names.nd rfl (Or.inl rfl) (pe_ix ix_list (pe_lst (pa_cons pe_str (pa_cons pe_str (pa_cons pe_str (pa_cons pe_str pa_nil))))) (pc (ok_draw T) hr (by omega) passE rfl (pa_cons (pv 0) (pa_cons pe_int pa_nil))) (fun _ _ => rfl)))
      (pss_cons (ps_set (i := 5) sc_l_names.nd rfl (Or.inl rfl) (pc (ok_draw T) hr (by omega) passE rfl (pa_cons (pv 0) (pa_cons (pe_op op_add (pe_callB call_len_str rfl T.f_len (by decide +kernel) (pa_cons (pv 4) pa_nil)) pe_int) pa_nil))))
      (pss_cons (ps_set (i := 6) sc_l_names.nd rfl (Or.inl rfl) (pe_lst pa_nil))
      (pss_cons (ps_for ownE rfl (pi_range1 rfl T.f_range (pa_cons (pv 1) pa_nil)) (pg_name (i := 7) sc_l_names.nd rfl (Or.inl rfl)) (pss_cons (ps_set (i := 8) sc_l_names.nd rfl (Or.inl rfl) (pe_op op_add_str (pe_op op_add_str (pe_slice sl_str (pv 4) po_none (po_some (pv 5))) (pe_ix ix_str (pv 2) (pc (ok_draw T) hr (by omega) passE rfl (pa_cons (pv 0) (pa_cons pe_int pa_nil))) (fun _ _ => rfl))) (pe_slice sl_str (pv 4) (po_some (pv 5)) po_none)))
      (pss_cons (ps_for ownE rfl (pi_range1 rfl T.f_range (pa_cons (pe_ix ix_list (pe_lst (pa_cons pe_int (pa_cons pe_int (pa_cons pe_int (pa_cons pe_int (pa_cons pe_int (pa_cons pe_int pa_nil))))))) (pc (ok_draw T) hr (by omega) passE rfl (pa_cons (pv 0) (pa_cons pe_int pa_nil))) (fun _ _ => rfl)) pa_nil)) (pg_name (i := 9) sc_l_names.nd rfl (Or.inl rfl)) (pss_one (ps_set (i := 8) sc_l_names.nd rfl (Or.inl rfl) (pe_op op_add_str (pv 8) (pe_ix ix_str (pv 2) (pc (ok_draw T) hr (by omega) passE rfl (pa_cons (pv 0) (pa_cons pe_int pa_nil))) (fun _ _ => rfl))))))
      (pss_cons (ps_set (i := 10) sc_l_names.nd rfl (Or.inl rfl) (pc (ok_draw T) hr (by omega) passE rfl (pa_cons (pv 0) (pa_cons pe_int pa_nil))))
      (pss_cons (ps_if (pt_cmpR op_eq (pv 10) pe_int (nomark _)) (pss_one (ps_set (i := 8) sc_l_names.nd rfl (Or.inl rfl) (pe_op op_add_str (pv 8) (pe_op op_mulS pe_str (pe_op op_sub pe_int (pe_callB call_len_str rfl T.f_len (by decide +kernel) (pa_cons (pv 8) pa_nil))))))) pss_nil)
      (pss_cons (ps_if (pt_cmpR op_eq (pv 10) pe_int (nomark _)) (pss_one (ps_set (i := 8) sc_l_names.nd rfl (Or.inl rfl) (pe_op op_add_str (pe_ix ix_list (pv 3) (pc (ok_draw T) hr (by omega) passE rfl (pa_cons (pv 0) (pa_cons pe_int pa_nil))) (fun _ _ => rfl)) (pe_slice sl_str (pv 8) po_none (po_some pe_int))))) pss_nil)
      (pss_cons (ps_if (pt_cmpR op_eq (pv 10) pe_int (nomark _)) (pss_one (ps_set (i := 8) sc_l_names.nd rfl (Or.inl rfl) (pe_slice sl_str (pe_ix ix_list (pv 3) (pc (ok_draw T) hr (by omega) passE rfl (pa_cons (pv 0) (pa_cons pe_int pa_nil))) (fun _ _ => rfl)) po_none (po_some (pe_un un_neg pe_int))))) pss_nil)
      (pss_cons (ps_if (PW.pt (pw_or (pt_cmpR op_in_seq (pv 8) (pv 3) (by rfl)) (pw_or1 (pt_cmpR op_in_seq (pv 8) (pv 6) (by rfl))))) (pss_one (ps_set (i := 8) sc_l_names.nd rfl (Or.inl rfl) (pe_op op_add_str pe_str (pe_callTy call_str_any rfl T.f_str (by decide +kernel) (pa_cons (pv 7) pa_nil))))) pss_nil)
      (pss_one (ps_expr (pe_bm PySem.F.plainAttrs_list PySem.F.slot_list_append PySem.F.type_list_append mt_append (pv 6) (pa_cons (pv 8) pa_nil))))))))))))
      (pss_one (ps_ret (pv 6)))))))))
end
end K18

/-! G5: leaves of conditions -/
namespace K18
open PySem PySem.Spec L2
open PyProof.Rows hiding St
abbrev N_l_leaf : List Str := ["_law_tape_here", "_law_world", "_law_flags", "_law_free"]
theorem sc_l_leaf : FnScope N_l_leaf ["_law_tape_here", "_law_world", "_law_flags"] (defScope s_l_leaf) := ⟨rfl, rfl, rfl, by decide +kernel, rfl, by decide +kernel, by decide +kernel⟩
def t_l_leaf (K : PySem.W.Frag) (E : XK)  : TS :=
  (tSeq (tAsg (tOp (rIxL K) (tVar 1) (tC (.int 0))) (gName 3))
  (tSeq (tIfS (tAnd (tTru K (tVar 2)) (tOr (tTest (tOp rEq (tOp (rIxL K) (tVar 3) (tC (.int 1))) (tC (.int 0)))) (tTest (tOp rEq (tCal spDraw E (tCons (tVar 0) (tCons (tC (.int 3)) tNil))) (tC (.int 0)))))) (tRet (tTup (tCons (tC (.str "flag")) (tCons (tOp (rIxL K) (tVar 2) (tCal spDraw E (tCons (tVar 0) (tCons (tCB (rLenQ K) (tCons (tVar 2) tNil)) tNil)))) tNil)))) tNext)
  (tSeq (tAsg (tOp rSubI (tOp (rIxL K) (tVar 3) (tC (.int 1))) (tC (.int 1))) (gSub (tVar 3) (tC (.int 1)) rSetL))
  (tRet (tTup (tCons (tC (.str "call")) (tCons (tOp (rIxL K) (tOp (rIxL K) (tVar 1) (tC (.int 1))) (tCal spDraw E (tCons (tVar 0) (tCons (tCB (rLenQ K) (tCons (tOp (rIxL K) (tVar 1) (tC (.int 1))) tNil)) tNil)))) tNil)))))))
/-! ### the parts of a condition: leaves, negations, joins, marks between operands -/
mutual
def lfN : Cn → Nat
  | .call _ => 1
  | .flag _ => 1
  | .neg c => lfN c
  | .chn _ cs => lfNs cs
def lfNs : List Cn → Nat
  | [] => 0
  | c :: r => lfN c + lfNs r
end
mutual
def ngC : Cn → Nat
  | .call _ => 0
  | .flag _ => 0
  | .neg c => ngC c + 1
  | .chn _ cs => ngCs cs
def ngCs : List Cn → Nat
  | [] => 0
  | c :: r => ngC c + ngCs r
end
mutual
def jsC : Cn → Nat
  | .call _ => 0
  | .flag _ => 0
  | .neg c => jsC c
  | .chn _ cs => jsCs cs + 1
def jsCs : List Cn → Nat
  | [] => 0
  | c :: r => jsC c + jsCs r
end
mutual
/-- names from the row, chains of two at least -/
def wfC (nms : List Str) : Cn → Prop
  | .call x => x ∈ nms
  | .flag x => x ∈ nms
  | .neg c => wfC nms c
  | .chn _ cs => 2 ≤ cs.length ∧ wfCs nms cs
def wfCs (nms : List Str) : List Cn → Prop
  | [] => True
  | c :: r => wfC nms c ∧ wfCs nms r
end
theorem lfNs_app : ∀ a b : List Cn, lfNs (a ++ b) = lfNs a + lfNs b
  | [], b => by simp [lfNs]
  | c :: r, b => by rw [List.cons_append, lfNs, lfNs, lfNs_app r b]; omega
theorem ngCs_app : ∀ a b : List Cn, ngCs (a ++ b) = ngCs a + ngCs b
  | [], b => by simp [ngCs]
  | c :: r, b => by rw [List.cons_append, ngCs, ngCs, ngCs_app r b]; omega
theorem jsCs_app : ∀ a b : List Cn, jsCs (a ++ b) = jsCs a + jsCs b
  | [], b => by simp [jsCs]
  | c :: r, b => by rw [List.cons_append, jsCs, jsCs, jsCs_app r b]; omega
theorem wfCs_app {nms : List Str} : ∀ {a b : List Cn}, wfCs nms (a ++ b) ↔ wfCs nms a ∧ wfCs nms b
  | [], b => by simp [wfCs]
  | c :: r, b => by rw [List.cons_append, wfCs, wfCs, wfCs_app (a := r) (b := b), and_assoc]
mutual
theorem nd_parts : ∀ c : Cn, nd c = lfN c + ngC c + jsC c
  | .call _ => by simp [nd, lfN, ngC, jsC]
  | .flag _ => by simp [nd, lfN, ngC, jsC]
  | .neg c => by have := nd_parts c; rw [nd, lfN, ngC, jsC]; omega
  | .chn _ cs => by have := nds_parts cs; rw [nd, lfN, ngC, jsC]; omega
theorem nds_parts : ∀ c : List Cn, nds c = lfNs c + ngCs c + jsCs c
  | [] => by simp [nds, lfNs, ngCs, jsCs]
  | c :: r => by have := nd_parts c; have := nds_parts r; rw [nds, lfNs, ngCs, jsCs]; omega
end
theorem fl_lv (a : Bool) (c : Cn) : lfNs (fl a c) = lfN c := by
  cases c with
  | chn b cs =>
    show lfNs (if b = a then cs else [.chn b cs]) = _
    split
    · rw [lfN]
    · rw [lfNs, lfNs]
      omega
  | _ => simp [fl, lfNs]
theorem fl_ng (a : Bool) (c : Cn) : ngCs (fl a c) = ngC c := by
  cases c with
  | chn b cs =>
    show ngCs (if b = a then cs else [.chn b cs]) = _
    split
    · rw [ngC]
    · rw [ngCs, ngCs]
      omega
  | _ => simp [fl, ngCs]
theorem fl_js (a : Bool) (c : Cn) : jsCs (fl a c) ≤ jsC c := by
  cases c with
  | chn b cs =>
    show jsCs (if b = a then cs else [.chn b cs]) ≤ _
    split
    · rw [jsC]
      omega
    · rw [jsCs, jsCs]
      omega
  | _ => simp [fl, jsCs]
theorem fl_wf {nms : List Str} (a : Bool) {c : Cn} (h : wfC nms c) : wfCs nms (fl a c) ∧ 1 ≤ (fl a c).length := by
  cases c with
  | chn b cs =>
    show wfCs nms (if b = a then cs else [.chn b cs]) ∧ 1 ≤ (if b = a then cs else [.chn b cs]).length
    split
    · rw [wfC] at h
      exact ⟨h.2, by omega⟩
    · exact ⟨⟨h, trivial⟩, Nat.le_refl _⟩
  | _ => exact ⟨⟨h, trivial⟩, Nat.le_refl _⟩
theorem jn_lv (a : Bool) (c d : Cn) : lfN (jn a c d) = lfN c + lfN d := by rw [jn, lfN, lfNs_app, fl_lv, fl_lv]
theorem jn_ng (a : Bool) (c d : Cn) : ngC (jn a c d) = ngC c + ngC d := by rw [jn, ngC, ngCs_app, fl_ng, fl_ng]
theorem jn_js (a : Bool) (c d : Cn) : jsC (jn a c d) ≤ jsC c + jsC d + 1 := by
  have := fl_js a c
  have := fl_js a d
  rw [jn, jsC, jsCs_app]
  omega
theorem jn_wf {nms : List Str} (a : Bool) {c d : Cn} (h1 : wfC nms c) (h2 : wfC nms d) : wfC nms (jn a c d) := by
  obtain ⟨a1, a2⟩ := fl_wf a h1
  obtain ⟨b1, b2⟩ := fl_wf a h2
  rw [jn, wfC]
  exact ⟨by rw [List.length_append]; omega, wfCs_app.mpr ⟨a1, b1⟩⟩
/-! ### the world of a condition -/
structure Gw (a s ln wl fr : Addr) (H : Hp) (nms : List Str) (k1 k5 : Int) : Prop where
  tp : TpS H a s
  hn : H ln = some (.lst (nms.map V.str))
  hw : H wl = some (.lst [.ref fr, .ref ln, .ref ln, .ref ln])
  hf : H fr = some (.lst [.int 0, .int k1, .int 0, .int 0, .int 0, .int k5])
  na : ln ≠ a
  wa : wl ≠ a
  fa : fr ≠ a
  fs : fr ≠ s
  fn : fr ≠ ln
  fw : fr ≠ wl
  n1 : 0 < nms.length
  n4 : nms.length ≤ 4
section
variable {a s ln wl fr : Addr} {H H1 : Hp} {nms : List Str} {k1 k5 : Int}
theorem Gw.step (G : Gw a s ln wl fr H nms k1 k5) (f : Fr [a] H H1) (t : TpS H1 a s) : Gw a s ln wl fr H1 nms k1 k5 :=
  ⟨t, f.oth _ _ G.hn (by simpa using G.na), f.oth _ _ G.hw (by simpa using G.wa), f.oth _ _ G.hf (by simpa using G.fa), G.na, G.wa, G.fa, G.fs, G.fn, G.fw, G.n1, G.n4⟩
theorem Gw.fr0 (G : Gw a s ln wl fr H nms k1 k5) (f : Fr [] H H1) : Gw a s ln wl fr H1 nms k1 k5 := G.step (f.mono (by simp)) (G.tp.fr0 f)
theorem Gw.put (G : Gw a s ln wl fr H nms k1 k5) (j1 j5 : Int) : Fr [a, fr] H (upd H fr (.lst [.int 0, .int j1, .int 0, .int 0, .int 0, .int j5])) ∧ Gw a s ln wl fr (upd H fr (.lst [.int 0, .int j1, .int 0, .int 0, .int 0, .int j5])) nms j1 j5 := by
  have f : Fr [fr] H (upd H fr (.lst [.int 0, .int j1, .int 0, .int 0, .int 0, .int j5])) := Fr.put G.hf (List.mem_singleton.mpr rfl)
  exact ⟨f.mono (by simp), G.tp.fr f (by simpa using Ne.symm G.fa) (by simpa using Ne.symm G.fs), f.oth _ _ G.hn (by simpa using Ne.symm G.fn), f.oth _ _ G.hw (by simpa using Ne.symm G.fw), upd_same, G.na, G.wa, G.fa, G.fs, G.fn, G.fw, G.n1, G.n4⟩
end
def isLf : Cn → Bool
  | .call _ => true
  | .flag _ => true
  | _ => false
def spLeaf : Sp := fun vs H Q _ => ∃ (a s ln wl fr : Addr) (nms : List Str) (k1 k5 : Int), vs = [.ref a, .ref wl, .ref ln] ∧ Gw a s ln wl fr H nms k1 k5 ∧ ∀ H' v c j1, Fr [a, fr] H H' → Gw a s ln wl fr H' nms j1 k5 → TD H' v c.data → wfC nms c → isLf c = true → Q v H'
section
variable {wd : World} {K : PySem.W.Frag} {mg : Str → Option Value} {base : Heap} {w : Rw}
theorem nm_at {nms : List Str} {r : Nat} (h1 : 0 < nms.length) (h : r < max nms.length 1) : ∃ y, (nms.map V.str)[r]? = some (.str y) ∧ y ∈ nms := by
  have lt : r < nms.length := by omega
  exact ⟨nms[r], by rw [List.getElem?_map, List.getElem?_eq_getElem lt]; rfl, List.getElem_mem lt⟩
theorem pure_leaf (vs : List V) (H : Hp) (Q : VK) (E : XK) (h : spLeaf vs H Q E) : t_l_leaf K E { nx := fun _ H' => Q .non H', rt := Q } (start N_l_leaf vs) H := by
  obtain ⟨a, s, ln, wl, fr, nms, k1, k5, rfl, G, q⟩ := h
  have h1 := G.n1
  have h4 := G.n4
  refine ⟨_, rfl, wl, _, 0, _, rfl, rfl, sqL G.hw, at0, ?_⟩
  have flag : ∀ H1, Fr [a, fr] H H1 → Gw a s ln wl fr H1 nms k1 k5 → tRet (tTup (tCons (tC (.str "flag")) (tCons (tOp (rIxL K) (tVar 2) (tCal spDraw E (tCons (tVar 0) (tCons (tCB (rLenQ K) (tCons (tVar 2) tNil)) tNil)))) tNil))) { nx := fun _ H' => Q .non H', rt := Q } [some (.ref a), some (.ref wl), some (.ref ln), some (.ref fr)] H1 := by
    intro H1 f1 G1
    refine ⟨_, rfl, _, rfl, _, rfl, ln, _, rfl, .inl (sqL G1.hn), a, s, nms.length, by rw [List.length_map], by omega, G1.tp, fun H2 r f2 t2 hr => ?_⟩
    have G2 := G1.step f2 t2
    obtain ⟨y, e, hy⟩ := nm_at h1 hr
    refine ⟨ln, _, _, _, rfl, rfl, sqL G2.hn, atI_nat e, two_le, fun p hp => ?_⟩
    have fn : Fr [] H2 (upd H2 p (.tup [.str "flag", .str y])) := Fr.new hp
    exact q _ _ (.flag y) k1 ((f1.trans (f2.mono (by simp))).trans (fn.mono (by simp))) (G2.fr0 fn) (by rw [Cn.data]; exact TD.mk2 upd_same (.str _) (.str _)) hy rfl
  have call : ∀ H1, Fr [a, fr] H H1 → Gw a s ln wl fr H1 nms k1 k5 → tSeq (tAsg (tOp rSubI (tOp (rIxL K) (tVar 3) (tC (.int 1))) (tC (.int 1))) (gSub (tVar 3) (tC (.int 1)) rSetL))
      (tRet (tTup (tCons (tC (.str "call")) (tCons (tOp (rIxL K) (tOp (rIxL K) (tVar 1) (tC (.int 1))) (tCal spDraw E (tCons (tVar 0) (tCons (tCB (rLenQ K) (tCons (tOp (rIxL K) (tVar 1) (tC (.int 1))) tNil)) tNil)))) tNil)))) { nx := fun _ H' => Q .non H', rt := Q } [some (.ref a), some (.ref wl), some (.ref ln), some (.ref fr)] H1 := by
    intro H1 f1 G1
    refine ⟨_, rfl, fr, _, 1, _, rfl, rfl, sqL G1.hf, at1, _, _, rfl, rfl, _, rfl, fr, _, 1, 1, rfl, rfl, G1.hf, rfl, ?_⟩
    obtain ⟨f2, G2⟩ := G1.put (k1 - 1) k5
    refine ⟨_, rfl, wl, _, 1, _, rfl, rfl, sqL G2.hw, at1, _, rfl, _, rfl, wl, _, 1, _, rfl, rfl, sqL G2.hw, at1, ln, _, rfl, .inl (sqL G2.hn), a, s, nms.length, by rw [List.length_map], by omega, G2.tp, fun H3 r f3 t3 hr => ?_⟩
    have G3 := G2.step f3 t3
    obtain ⟨y, e, hy⟩ := nm_at h1 hr
    refine ⟨ln, _, _, _, rfl, rfl, sqL G3.hn, atI_nat e, two_le, fun p hp => ?_⟩
    have fn : Fr [] H3 (upd H3 p (.tup [.str "call", .str y])) := Fr.new hp
    exact q _ _ (.call y) (k1 - 1) (((f1.trans f2).trans (f3.mono (by simp))).trans (fn.mono (by simp))) (G3.fr0 fn) (by rw [Cn.data]; exact TD.mk2 upd_same (.str _) (.str _)) hy rfl
  have tr : TruV K (.ref ln) H true := .inl ⟨_, sqL G.hn, by
    cases nms with
    | nil => cases h1
    | cons _ _ => rfl⟩
  refine ⟨_, rfl, _, tr, iteT ?_⟩
  refine ⟨_, rfl, fr, _, 1, _, rfl, rfl, sqL G.hf, at1, rfl, _, rfl, ?_⟩
  refine iteB (fun _ => iteT (flag H Fr.refl G)) fun _ => ?_
  refine g_draw 3 rfl G.tp fun H1 r f1 t1 hr => ⟨rfl, _, rfl, ?_⟩
  exact iteB (fun _ => flag H1 (f1.mono (by simp)) (G.step f1 t1)) fun _ => call H1 (f1.mono (by simp)) (G.step f1 t1)
theorem ok_leaf (T : Txt K mg) : CalS R0 wd K mg base 2 "_law_leaf" spLeaf := by
  refine cal_s T.d_l_leaf T.g_l_leaf sc_l_leaf (fun _ _ _ _ _ _ us hl => match us, hl with | [_, _, _], _ => rfl) (fun vs H Q E h => ?_) (fun cdv A outer s H vs Q E hr h => ⟨t_l_leaf K E, ?_, pure_leaf vs H Q E h⟩)
  · obtain ⟨a, s, ln, wl, fr, nms, k1, k5, rfl, _⟩ := h
    rfl
  · exact (pss_cons (ps_set (i := 3) sc_l_leaf.nd rfl (Or.inl rfl) (pe_ix ix_list (pv 1) pe_int (fun _ _ => rfl)))
      (pss_cons (ps_if (PW.pt (pw_and (pt_truth (pv 2) (by intro _; rfl)) (pw_and1 (PW.pt (pw_or (pt_cmpR op_eq (pe_ix ix_list (pv 3) pe_int (fun _ _ => rfl)) pe_int (nomark _)) (pw_or1 (pt_cmpR op_eq (pc (ok_draw T) hr (by omega) passE rfl (pa_cons (pv 0) (pa_cons pe_int pa_nil))) pe_int (nomark _)))))))) (pss_one (ps_ret (pe_tup (pa_cons pe_str (pa_cons (pe_ix ix_list (pv 2) (pc (ok_draw T) hr (by omega) passE rfl (pa_cons (pv 0) (pa_cons (pe_callB call_len_seq rfl T.f_len (by decide +kernel) (pa_cons (pv 2) pa_nil)) pa_nil))) (fun _ _ => rfl)) pa_nil))))) pss_nil)
      (pss_cons (ps_asg (pe_op op_sub (pe_ix ix_list (pv 3) pe_int (fun _ _ => rfl)) pe_int) (pg_sub (pv 3) pe_int set_list))
      (pss_one (ps_ret (pe_tup (pa_cons pe_str (pa_cons (pe_ix ix_list (pe_ix ix_list (pv 1) pe_int (fun _ _ => rfl)) (pc (ok_draw T) hr (by omega) passE rfl (pa_cons (pv 0) (pa_cons (pe_callB call_len_seq rfl T.f_len (by decide +kernel) (pa_cons (pe_ix ix_list (pv 1) pe_int (fun _ _ => rfl)) pa_nil)) pa_nil))) (fun _ _ => rfl)) pa_nil))))))))
end
end K18

/-! G6: parts -/
namespace K18
open PySem PySem.Spec L2
open PyProof.Rows hiding St
abbrev N_l_parts : List Str := ["_law_condition_here", "_law_part"]
theorem sc_l_parts : FnScope N_l_parts ["_law_condition_here"] (defScope s_l_parts) := ⟨rfl, rfl, rfl, by decide +kernel, rfl, by decide +kernel, by decide +kernel⟩
def t_l_parts (K : PySem.W.Frag) (E : XK) (spP : Sp) : TS :=
  (tSeq (tIfS (tTest (tOp rEq (tOp (rIxT K) (tVar 0) (tC (.int 0))) (tC (.str "not")))) (tRet (tOp rAddI (tC (.int 1)) (tCal spP E (tCons (tOp (rIxT K) (tVar 0) (tC (.int 1))) tNil)))) tNext)
  (tSeq (tIfS (tOr (tTest (tOp rEq (tOp (rIxT K) (tVar 0) (tC (.int 0))) (tC (.str "and")))) (tTest (tOp rEq (tOp (rIxT K) (tVar 0) (tC (.int 0))) (tC (.str "or"))))) (tRet (tOp rAddI (tC (.int 1)) (tCB (rSum K) (tCons (tLc (iTup K (tOp (rIxT K) (tVar 0) (tC (.int 1)))) (gName 1) tYes (tCal spP E0 (tCons (tVar 1) tNil)) [1]) tNil)))) tNext)
  (tRet (tC (.int 1)))))
section
variable {wd : World} {K : PySem.W.Frag} {mg : Str → Option Value} {base : Heap} {w : Rw}
theorem pure_lparts {n : Nat} {spP : Sp} (hS : ∀ m, n = m + 1 → spP = spPn m) (vs : List V) (H : Hp) (Q : VK) (E : XK) (h : spPn n vs H Q E) : t_l_parts K E spP { nx := fun _ H' => Q .non H', rt := Q } (start N_l_parts vs) H := by
  obtain ⟨v, c, rfl, hv, hc, q⟩ := h
  replace q : ∀ H' u, Fr [] H H' → TD H' u (.int (nd c)) → Q u H' := q
  obtain ⟨b, xs, rfl, hb, hx⟩ := cn_open hv
  cases c with
  | call n =>
    refine x_eq rfl hb (fun z => absurd z (by dsimp only [Cn.k]; decide +kernel)) fun _ => ?_
    refine x_eq2 rfl hb (fun z => absurd z (by dsimp only [Cn.k]; decide +kernel)) fun _ => ?_
    exact q _ _ Fr.refl (by rw [nd]; exact .int _)
  | flag n =>
    refine x_eq rfl hb (fun z => absurd z (by dsimp only [Cn.k]; decide +kernel)) fun _ => ?_
    refine x_eq2 rfl hb (fun z => absurd z (by dsimp only [Cn.k]; decide +kernel)) fun _ => ?_
    exact q _ _ Fr.refl (by rw [nd]; exact .int _)
  | neg c =>
    rw [Cn.data] at hv
    obtain ⟨b', xs', e, hb', hx'⟩ := hv.tup_inv
    cases e
    obtain ⟨u0, r0, rfl, t0, hx'⟩ := hx'.cons_inv
    obtain ⟨u1, r1, rfl, t1, hx'⟩ := hx'.cons_inv
    refine x_eq rfl hb (fun _ => ?_) fun c => absurd rfl c
    obtain ⟨m, em, op⟩ := hc.part (p := c) (List.mem_singleton.mpr rfl)
    rw [hS m em]
    refine ⟨_, rfl, b, _, 1, _, rfl, rfl, sqT hb', at1, u1, c, rfl, t1, op, fun H1 u f1 hu => ?_⟩
    obtain rfl : u = .int (nd c) := TD.int_inv hu
    refine ⟨_, _, rfl, rfl, q _ _ f1 ?_⟩
    have e : (1 : Int) + (nd c : Int) = (nd (.neg c) : Int) := by rw [nd]; omega
    show TD H1 (.int ((1 : Int) + (nd c : Int))) _
    rw [e]
    exact .int _
  | chn a cs =>
    obtain ⟨t, zs, rfl, ht, hz⟩ := hx a cs rfl
    have n := kW_ne a
    have e2 : kW a = "and" ∨ kW a = "or" := by cases a <;> decide +kernel
    have zl : zs.length = cs.length := by rw [hz.length, Cn.datas_map, List.length_map]
    refine x_eq rfl hb (fun c => absurd c.symm n.2.2) fun _ => ?_
    refine x_eq2 rfl hb (fun _ => ?_) fun c => absurd e2 c
    refine ⟨_, rfl, b, _, 1, _, rfl, rfl, sqT hb, at1, t, rfl, ⟨zs, sqT ht⟩, fun D hD => lc_tup (xs := zs) (fun i H' => Fr [] H H' ∧ H' D = some (.lst ((cs.take i).map fun c => V.int (nd c)))) ⟨Fr.new hD, upd_same⟩ (fun i H' _ p => sqT (p.1.tup _ _ ht)) ?_ ?_⟩
    · rintro i x H' hi ⟨fr, hl⟩
      obtain ⟨d, e1, hx⟩ := hz.get hi
      rw [Cn.datas_map, List.getElem?_map] at e1
      obtain ⟨p, ep, rfl⟩ := Option.map_eq_some_iff.mp e1
      obtain ⟨m, em, op⟩ := hc.part (p := p) (List.mem_of_getElem? ep)
      refine ⟨rfl, yesI ?_⟩
      rw [hS m em]
      refine ⟨_, rfl, x, p, rfl, hx.fr fr, op, fun H2 u f2 hu => ⟨_, f2.oth _ _ hl (by simp), ?_, ?_⟩⟩
      · have := hc.len
        rw [List.length_map, List.length_take]
        exact Nat.lt_of_le_of_lt (Nat.le_trans (Nat.min_le_right _ _) this) (by decide)
      · obtain rfl : u = .int (nd p) := TD.int_inv hu
        refine ⟨(fr.trans f2).out hD, ?_⟩
        rw [upd_same, List.take_add_one, ep, List.map_append]
        rfl
    · rintro H' ⟨fr, hl⟩
      rw [zl, List.take_length] at hl
      refine ⟨D, cs.map fun c => (nd c : Int), rfl, sqL (by rw [hl, List.map_map]; rfl), ?_⟩
      have e : 1 + (cs.map fun c => (nd c : Int)).sum = (nd (.chn a cs) : Int) := by
        have e2 : (cs.map fun c => (nd c : Int)).sum = ((cs.map nd).sum : Nat) := by
          generalize cs = l
          induction l with
          | nil => rfl
          | cons a r ih => rw [List.map_cons, List.sum_cons, List.map_cons, List.sum_cons, ih]; omega
        rw [e2, nd, nds_sum]
        omega
      refine ⟨_, _, rfl, rfl, ?_⟩
      show Q (.int (1 + (cs.map fun c => (nd c : Int)).sum)) H'
      rw [e]
      exact q _ _ fr (.int _)
theorem ok_lparts (T : Txt K mg) : ∀ n, CalS R0 wd K mg base (n + 2) "_law_parts" (spPn n) := by
  intro n
  have main : ∀ (n k : Nat) (spP : Sp), (∀ m, n = m + 1 → spP = spPn m) → 1 ≤ k → CalS R0 wd K mg base k "_law_parts" spP → CalS R0 wd K mg base (k + 1) "_law_parts" (spPn n) := by
    intro n k spP hS hk GP
    refine cal_s T.d_l_parts T.g_l_parts sc_l_parts (fun _ _ _ _ _ _ us hl => match us, hl with | [_], _ => rfl) (fun vs H Q E h => fn_len vs H Q E h) (fun cdv A outer s H vs Q E hr h => ⟨t_l_parts K E spP, ?_, pure_lparts hS vs H Q E h⟩)
    exact (pss_cons (ps_if (pt_cmpR op_eq (pe_ix ix_tup (pv 0) pe_int (fun _ _ => rfl)) pe_str (nomark _)) (pss_one (ps_ret (pe_op op_add pe_int (pc GP hr (by omega) passE rfl (pa_cons (pe_ix ix_tup (pv 0) pe_int (fun _ _ => rfl)) pa_nil))))) pss_nil)
      (pss_cons (ps_if (PW.pt (pw_or (pt_cmpR op_eq (pe_ix ix_tup (pv 0) pe_int (fun _ _ => rfl)) pe_str (nomark _)) (pw_or1 (pt_cmpR op_eq (pe_ix ix_tup (pv 0) pe_int (fun _ _ => rfl)) pe_str (nomark _))))) (pss_one (ps_ret (pe_op op_add pe_int (pe_callB (cr_sum rfl) rfl T.f_sum (by decide +kernel) (pa_cons (pe_lc (own := [("_law_part", 1)]) (g := gName 1) (tt := tYes) rfl sc_l_parts.nd (pi_tup (pe_ix ix_tup (pv 0) pe_int (fun _ _ => rfl))) (blkOk_by (N := N_l_parts) (sc := defScope s_l_parts) (by decide +kernel)) (fun _ _ _ _ _ => pg_name (i := 1) sc_l_parts.nd rfl (Or.inl rfl)) (fun _ _ _ _ _ => pts_nil) (fun _ _ _ _ _ => (pc GP hr (by omega) passL rfl (pa_cons (pv 1) pa_nil)))) pa_nil))))) pss_nil)
      (pss_one (ps_ret pe_int))))
  induction n with
  | zero => exact main 0 1 spNo (fun _ z => by cases z) (Nat.le_refl _) (cal_no (ps := ["_law_condition_here"]) T.d_l_parts T.g_l_parts (fun _ _ _ _ _ _ us hl => match us, hl with | [_], _ => rfl) _)
  | succ n ih => exact main (n + 1) (n + 2) _ (fun m z => by cases z; rfl) (by omega) ih
end
mutual
theorem dcn_le : ∀ c : Cn, dcn c ≤ ngC c + jsC c
  | .call _ => by simp [dcn]
  | .flag _ => by simp [dcn]
  | .neg c => by have := dcn_le c; rw [dcn, ngC, jsC]; omega
  | .chn _ cs => by have := dcns_le cs; rw [dcn, ngC, jsC]; omega
theorem dcns_le : ∀ l : List Cn, dcns l ≤ ngCs l + jsCs l + 1
  | [] => by simp [dcns]
  | c :: r => by
    have := dcn_le c
    have := dcns_le r
    rw [dcns, ngCs, jsCs]
    omega
end
/-- a drawn condition -/
def drC (nms : List Str) (c : Cn) : Prop := wfC nms c ∧ lfN c ≤ 4 ∧ ngC c ≤ 11 ∧ jsC c ≤ 3
theorem drC.okC {nms : List Str} {c : Cn} (h : drC nms c) : okC 20 c ∧ nd c ≤ 18 := by
  obtain ⟨_, a, b, d⟩ := h
  have := nd_parts c
  have := dcn_le c
  exact ⟨⟨by omega, by omega⟩, by omega⟩
def spGCond : Sp := fun vs H Q _ => ∃ (a s ln wl fr : Addr) (nms : List Str) (k1 : Int), vs = [.ref a, .ref wl, .ref ln] ∧ Gw a s ln wl fr H nms k1 99 ∧ ∀ H' v c, Fr [a, fr] H H' → TpS H' a s → TD H' v c.data → drC nms c → Q v H'
abbrev N_l_condition : List Str := ["_law_tape_here", "_law_world", "_law_flags", "_law_limit", "_law_parts_here", "_law_k", "_law_part", "_law_j", "_law_place"]
theorem sc_l_condition : FnScope N_l_condition ["_law_tape_here", "_law_world", "_law_flags"] (defScope s_l_condition) := ⟨rfl, rfl, rfl, by decide +kernel, rfl, by decide +kernel, by decide +kernel⟩
def t_l_condition (K : PySem.W.Frag) (E : XK)  : TS :=
  (tSeq (tAsg (tC (.int 4)) (gName 3))
  (tSeq (tIfS (tNot (tTru K (tVar 2))) (tAsg (tCB rMin2I (tCons (tC (.int 4)) (tCons (tOp (rIxL K) (tOp (rIxL K) (tVar 1) (tC (.int 0))) (tC (.int 1))) tNil))) (gName 3)) tNext)
  (tSeq (tIfS (tTest (tOp rLtI (tOp (rIxL K) (tOp (rIxL K) (tVar 1) (tC (.int 0))) (tC (.int 5))) (tC (.int 18)))) (tSeq (tAsg (tOp rSubI (tOp (rIxL K) (tOp (rIxL K) (tVar 1) (tC (.int 0))) (tC (.int 5))) (tC (.int 1))) (gSub (tOp (rIxL K) (tVar 1) (tC (.int 0))) (tC (.int 5)) rSetL))
  (tRet (tCal spLeaf E (tCons (tVar 0) (tCons (tVar 1) (tCons (tVar 2) tNil)))))) tNext)
  (tSeq (tAsg (tLst tNil) (gName 4))
  (tSeq (tFor (iRng1 (tCons (tOp rAddI (tC (.int 1)) (tCal spDraw E (tCons (tVar 0) (tCons (tOp (rIxL K) (tLst (tCons (tC (.int 1)) (tCons (tC (.int 1)) (tCons (tVar 3) tNil)))) (tCal spDraw E (tCons (tVar 0) (tCons (tC (.int 3)) tNil)))) tNil)))) tNil)) (gName 5) (tSeq (tAsg (tCal spLeaf E (tCons (tVar 0) (tCons (tVar 1) (tCons (tVar 2) tNil)))) (gName 6))
  (tSeq (tFor (iRng1 (tCons (tOp (rIxL K) (tLst (tCons (tC (.int 0)) (tCons (tC (.int 0)) (tCons (tC (.int 0)) (tCons (tC (.int 1)) (tCons (tC (.int 2)) tNil)))))) (tCal spDraw E (tCons (tVar 0) (tCons (tC (.int 5)) tNil)))) tNil)) (gName 7) (tAsg (tTup (tCons (tC (.str "not")) (tCons (tVar 6) tNil))) (gName 6)))
  (tDrop (tBM K "list" rAppend (tVar 4) (tCons (tVar 6) tNil))))))
  (tSeq (tFor (iRng1 (tCons (tC (.int 3)) tNil)) (gName 5) (tIfS (tTest (tOp rGtI (tCB (rLenQ K) (tCons (tVar 4) tNil)) (tC (.int 1)))) (tSeq (tAsg (tCal spDraw E (tCons (tVar 0) (tCons (tOp rSubI (tCB (rLenQ K) (tCons (tVar 4) tNil)) (tC (.int 1))) tNil))) (gName 8))
  (tSeq (tAsg (tCal spLJoined E (tCons (tOp (rIxL K) (tLst (tCons (tC (.str "and")) (tCons (tC (.str "or")) tNil))) (tCal spDraw E (tCons (tVar 0) (tCons (tC (.int 2)) tNil)))) (tCons (tOp (rIxL K) (tVar 4) (tVar 8)) (tCons (tOp (rIxL K) (tVar 4) (tOp rAddI (tVar 8) (tC (.int 1)))) tNil)))) (gName 6))
  (tSeq (tIfS (tTest (tOp rEq (tCal spDraw E (tCons (tVar 0) (tCons (tC (.int 4)) tNil))) (tC (.int 0)))) (tAsg (tTup (tCons (tC (.str "not")) (tCons (tVar 6) tNil))) (gName 6)) tNext)
  (tAsg (tOp rCat (tOp rCat (tSl (rSlL K) (tVar 4) tNoPart (tPart (tVar 8))) (tLst (tCons (tVar 6) tNil))) (tSl (rSlL K) (tVar 4) (tPart (tOp rAddI (tVar 8) (tC (.int 2)))) tNoPart)) (gName 4))))) tNext))
  (tSeq (tAsg (tOp rSubI (tOp (rIxL K) (tOp (rIxL K) (tVar 1) (tC (.int 0))) (tC (.int 5))) (tCal (spPn 20) E (tCons (tOp (rIxL K) (tVar 4) (tC (.int 0))) tNil))) (gSub (tOp (rIxL K) (tVar 1) (tC (.int 0))) (tC (.int 5)) rSetL))
  (tRet (tOp (rIxL K) (tVar 4) (tC (.int 0)))))))))))
end K18

/-! G7: conditions, joins -/
namespace K18
open PySem PySem.Spec L2
open PyProof.Rows hiding St

theorem TDs.take {H : Hp} : ∀ {vs : List V} {ds : List PyData}, TDs H vs ds → ∀ n, TDs H (vs.take n) (ds.take n)
  | _, _, .nil, n => by rw [List.take_nil, List.take_nil]; exact .nil
  | _, _, .cons a l, 0 => .nil
  | _, _, .cons a l, n + 1 => .cons a (l.take n)
theorem TDs.drop {H : Hp} : ∀ {vs : List V} {ds : List PyData}, TDs H vs ds → ∀ n, TDs H (vs.drop n) (ds.drop n)
  | _, _, .nil, n => by rw [List.drop_nil, List.drop_nil]; exact .nil
  | _, _, .cons a l, 0 => .cons a l
  | _, _, .cons a l, n + 1 => l.drop n
theorem datas_take (cs : List Cn) (n : Nat) : Cn.datas (cs.take n) = (Cn.datas cs).take n := by rw [Cn.datas_map, Cn.datas_map, List.map_take]
theorem datas_drop (cs : List Cn) (n : Nat) : Cn.datas (cs.drop n) = (Cn.datas cs).drop n := by rw [Cn.datas_map, Cn.datas_map, List.map_drop]
theorem datas_app (a b : List Cn) : Cn.datas (a ++ b) = Cn.datas a ++ Cn.datas b := by rw [Cn.datas_map, Cn.datas_map, Cn.datas_map, List.map_append]
theorem two_at {α : Type} {l : List α} {r : Nat} (h : r + 1 < l.length) : ∃ c d, l[r]? = some c ∧ l[r + 1]? = some d ∧ l = l.take r ++ c :: d :: l.drop (r + 2) := by
  refine ⟨l[r], l[r + 1], List.getElem?_eq_getElem _, List.getElem?_eq_getElem _, ?_⟩
  rw [← List.drop_eq_getElem_cons (by omega), ← List.drop_eq_getElem_cons (by omega), List.take_append_drop]
theorem Gw.any {a s ln wl fr : Addr} {H H1 : Hp} {nms : List Str} {k1 k5 : Int} {M : List Addr} (G : Gw a s ln wl fr H nms k1 k5) (f : Fr M H H1) (h : ∀ x ∈ [a, s, ln, wl, fr], x ∉ M) : Gw a s ln wl fr H1 nms k1 k5 :=
  ⟨G.tp.fr f (h a (by simp)) (h s (by simp)), f.oth _ _ G.hn (h ln (by simp)), f.oth _ _ G.hw (h wl (by simp)), f.oth _ _ G.hf (h fr (by simp)), G.na, G.wa, G.fa, G.fs, G.fn, G.fw, G.n1, G.n4⟩
theorem Gw.ne {a s ln wl fr p : Addr} {H : Hp} {nms : List Str} {k1 k5 : Int} (G : Gw a s ln wl fr H nms k1 k5) (hp : H p = none) : ∀ x ∈ [a, s, ln, wl, fr], x ∉ [p] := by
  have h1 := G.tp.nea hp
  have h2 : p ≠ ln := fun z => by rw [z, G.hn] at hp; cases hp
  have h3 : p ≠ wl := fun z => by rw [z, G.hw] at hp; cases hp
  have h4 : p ≠ fr := fun z => by rw [z, G.hf] at hp; cases hp
  intro x hx
  simp only [List.mem_cons, List.not_mem_nil, or_false] at hx ⊢
  rcases hx with rfl | rfl | rfl | rfl | rfl
  · exact Ne.symm h1.1
  · exact Ne.symm h1.2
  · exact Ne.symm h2
  · exact Ne.symm h3
  · exact Ne.symm h4
/-- conditions in a list that is drawn -/
structure CsP (nms : List Str) (cs : List Cn) (n g j : Nat) : Prop where
  wf : wfCs nms cs
  lf : lfNs cs = n
  ng : ngCs cs ≤ g
  js : jsCs cs ≤ j
theorem CsP.snoc {nms : List Str} {cs : List Cn} {c : Cn} {n g j : Nat} (P : CsP nms cs n g j) (h1 : wfC nms c) (h2 : lfN c = 1) (h3 : ngC c ≤ 2) (h4 : jsC c = 0) : CsP nms (cs ++ [c]) (n + 1) (g + 2) j := by
  have a := P.lf
  have b := P.ng
  have d := P.js
  refine ⟨wfCs_app.mpr ⟨P.wf, h1, trivial⟩, ?_, ?_, ?_⟩
  · rw [lfNs_app, lfNs, lfNs]; omega
  · rw [ngCs_app, ngCs, ngCs]; omega
  · rw [jsCs_app, jsCs, jsCs]; omega
theorem CsP.join {nms : List Str} {cs A B : List Cn} {c d e : Cn} {n g j : Nat} (P : CsP nms cs n g j) (hc : cs = A ++ c :: d :: B) (a : Bool) (he : e = jn a c d ∨ e = .neg (jn a c d)) : CsP nms (A ++ [e] ++ B) n (g + 1) (j + 1) := by
  obtain ⟨p1, p2, p3, p4⟩ := P
  subst hc
  rw [wfCs_app, wfCs, wfCs] at p1
  rw [lfNs_app, lfNs, lfNs] at p2
  rw [ngCs_app, ngCs, ngCs] at p3
  rw [jsCs_app, jsCs, jsCs] at p4
  have j1 := jn_lv a c d
  have j2 := jn_ng a c d
  have j3 := jn_js a c d
  have j4 := jn_wf a p1.2.1 p1.2.2.1
  have w : wfC nms e ∧ lfN e = lfN c + lfN d ∧ ngC e ≤ ngC c + ngC d + 1 ∧ jsC e ≤ jsC c + jsC d + 1 := by
    rcases he with rfl | rfl
    · exact ⟨j4, j1, by omega, j3⟩
    · exact ⟨by rw [wfC]; exact j4, by rw [lfN]; exact j1, by rw [ngC]; omega, by rw [jsC]; exact j3⟩
  obtain ⟨w1, w2, w3, w4⟩ := w
  refine ⟨wfCs_app.mpr ⟨wfCs_app.mpr ⟨p1.1, w1, trivial⟩, p1.2.2.2⟩, ?_, ?_, ?_⟩
  · rw [lfNs_app, lfNs_app, lfNs, lfNs]; omega
  · rw [ngCs_app, ngCs_app, ngCs, ngCs]; omega
  · rw [jsCs_app, jsCs_app, jsCs, jsCs]; omega
def tcJ (K : PySem.W.Frag) (E : XK) : TS := (tIfS (tTest (tOp rGtI (tCB (rLenQ K) (tCons (tVar 4) tNil)) (tC (.int 1)))) (tSeq (tAsg (tCal spDraw E (tCons (tVar 0) (tCons (tOp rSubI (tCB (rLenQ K) (tCons (tVar 4) tNil)) (tC (.int 1))) tNil))) (gName 8))
  (tSeq (tAsg (tCal spLJoined E (tCons (tOp (rIxL K) (tLst (tCons (tC (.str "and")) (tCons (tC (.str "or")) tNil))) (tCal spDraw E (tCons (tVar 0) (tCons (tC (.int 2)) tNil)))) (tCons (tOp (rIxL K) (tVar 4) (tVar 8)) (tCons (tOp (rIxL K) (tVar 4) (tOp rAddI (tVar 8) (tC (.int 1)))) tNil)))) (gName 6))
  (tSeq (tIfS (tTest (tOp rEq (tCal spDraw E (tCons (tVar 0) (tCons (tC (.int 4)) tNil))) (tC (.int 0)))) (tAsg (tTup (tCons (tC (.str "not")) (tCons (tVar 6) tNil))) (gName 6)) tNext)
  (tAsg (tOp rCat (tOp rCat (tSl (rSlL K) (tVar 4) tNoPart (tPart (tVar 8))) (tLst (tCons (tVar 6) tNil))) (tSl (rSlL K) (tVar 4) (tPart (tOp rAddI (tVar 8) (tC (.int 2)))) tNoPart)) (gName 4))))) tNext)
section
variable {wd : World} {K : PySem.W.Frag} {mg : Str → Option Value} {base : Heap} {w : Rw}
/-- between two joins -/
def CjQ (a s ln wl fr : Addr) (H : Hp) (nms : List Str) (n : Nat) (k : Nat) : L2.St → Hp → Prop := fun σ H' => ∃ (lp : Addr) (cs : List Cn) (xs : List V) (j1 : Int) (p5 p6 p7 p8 : Option V), σ = [some (.ref a), some (.ref wl), some (.ref ln), some (.int 4), some (.ref lp), p5, p6, p7, p8] ∧ Fr [a, fr] H H' ∧ Gw a s ln wl fr H' nms j1 99 ∧ H' lp = some (.lst xs) ∧ (∀ x ∈ [a, s, ln, wl, fr], x ∉ [lp]) ∧ TDs H' xs (Cn.datas cs) ∧ 1 ≤ cs.length ∧ cs.length ≤ max 1 (n - k) ∧ CsP nms cs n (2 * n + k) k
theorem cond_j {a s ln wl fr : Addr} {H H' : Hp} {nms : List Str} {n k : Nat} {D : Ends} {E : XK} {σ : L2.St} {kv : V} (hn : n ≤ 4) (h : CjQ a s ln wl fr H nms n k σ H') (hk : k < 3) (hD : D.nx = CjQ a s ln wl fr H nms n (k + 1)) : tcJ K E D (σ.set 5 (some kv)) H' := by
  obtain ⟨lp, cs, xs, j1, p5, p6, p7, p8, rfl, f0, G, hl, hne, ht, h1, h2, P⟩ := h
  have xl : xs.length = cs.length := by rw [ht.length, Cn.datas_map, List.length_map]
  have hla : lp ≠ a := fun z => hne a (by simp) (by rw [z]; simp)
  refine ⟨_, rfl, lp, _, rfl, .inl (sqL hl), _, _, rfl, rfl, _, rfl, ?_⟩
  by_cases c1 : 1 < cs.length
  · refine iteTb (decide_eq_true (by rw [xl]; omega)) ?_
    refine ⟨_, rfl, _, rfl, lp, _, rfl, .inl (sqL hl), _, _, rfl, rfl, a, s, xs.length - 1, congrArg (fun z => [V.ref a, V.int z]) (by omega), by omega, G.tp, fun H1 r f1 t1 hr => ?_⟩
    have G1 := G.step f1 t1
    have hl1 := f1.oth _ _ hl (by simpa using hla)
    obtain ⟨c, d, e1, e2, e3⟩ := two_at (l := cs) (r := r) (by omega)
    refine ⟨two_le, fun l2 hl2 => ?_⟩
    have f2 : Fr [] H1 (upd H1 l2 (.lst [.str "and", .str "or"])) := Fr.new hl2
    have G2 := G1.fr0 f2
    have n2 := G1.tp.nea hl2
    refine g_draw 2 rfl G2.tp fun H3 q f3 t3 hq => ?_
    have G3 := G2.step f3 t3
    have hl23 := f3.oth _ _ (show upd H1 l2 (.lst [.str "and", .str "or"]) l2 = _ from upd_same) (by simpa using n2.1)
    have hl3 := f3.oth _ _ (f2.oth _ _ hl1 (by simp)) (by simpa using hla)
    have ht3 := ((ht.fr f1).fr f2).fr f3
    have xr : ∃ v, xs[r]? = some v := ⟨xs[r]'(by omega), List.getElem?_eq_getElem _⟩
    have xr1 : ∃ v, xs[r + 1]? = some v := ⟨xs[r + 1]'(by omega), List.getElem?_eq_getElem _⟩
    obtain ⟨v, ev⟩ := xr
    obtain ⟨u, eu⟩ := xr1
    have tv : TD H3 v c.data := by
      obtain ⟨dd, g1, g2⟩ := ht3.get ev
      rw [Cn.datas_map, List.getElem?_map, e1] at g1
      cases g1
      exact g2
    have tu : TD H3 u d.data := by
      obtain ⟨dd, g1, g2⟩ := ht3.get eu
      rw [Cn.datas_map, List.getElem?_map, e2] at g1
      cases g1
      exact g2
    have hb : ∃ b : Bool, ([V.str "and", .str "or"] : List V)[q]? = some (.str (kW b)) := by
      match q, hq with
      | 0, _ => exact ⟨true, rfl⟩
      | 1, _ => exact ⟨false, rfl⟩
    obtain ⟨b, hb⟩ := hb
    have small : nd c + nd d ≤ 8000000 := by
      have z1 := nds_parts cs
      have z2 := P.lf
      have z3 := P.ng
      have z4 := P.js
      have z5 := nds_append (cs.take r) (c :: d :: cs.drop (r + 2))
      rw [← e3, nds, nds] at z5
      omega
    have cat : ∀ (H5 : Hp) (z : V) (e : Cn), Fr [a] H3 H5 → TpS H5 a s → TD H5 z e.data → (e = jn b c d ∨ e = .neg (jn b c d)) →
        tAsg (tOp rCat (tOp rCat (tSl (rSlL K) (tVar 4) tNoPart (tPart (tVar 8))) (tLst (tCons (tVar 6) tNil))) (tSl (rSlL K) (tVar 4) (tPart (tOp rAddI (tVar 8) (tC (.int 2)))) tNoPart)) (gName 4) D [some (.ref a), some (.ref wl), some (.ref ln), some (.int 4), some (.ref lp), some kv, some z, p7, some (.int (r : Int))] H5 := by
      intro H5 z e f5 t5 tz he
      have G5 := G3.step f5 t5
      have hl5 := f5.oth _ _ hl3 (by simpa using hla)
      have ht5 := ht3.fr f5
      have k1 : cutV xs none (some (r : Int)) = xs.take r := cutV_to xs r
      have k2 : cutV xs (some ((r : Int) + 2)) none = xs.drop (r + 2) := cutV_from xs (r + 2)
      refine ⟨_, rfl, _, rfl, _, rfl, lp, xs, rfl, sqL hl5, ?_⟩
      rw [k1]
      intro s1 hs1
      have g1 : Fr [] H5 (upd H5 s1 (.lst (xs.take r))) := Fr.new hs1
      refine ⟨_, rfl, one_le, fun s2 hs2 => ?_⟩
      have g2 : Fr [] (upd H5 s1 (.lst (xs.take r))) (upd (upd H5 s1 (.lst (xs.take r))) s2 (.lst [z])) := Fr.new hs2
      have cl1 : (xs.take r).length ≤ xs.length := by rw [List.length_take]; omega
      refine ⟨s1, s2, _, _, rfl, rfl, g2.oth _ _ upd_same (by simp), upd_same, mil (by show _ + 1 ≤ 1000000; omega), fun s3 hs3 => ?_⟩
      generalize hA : upd (upd H5 s1 (.lst (xs.take r))) s2 (.lst [z]) = HA at g2 hs3
      have g3 : Fr [] HA (upd HA s3 (.lst (xs.take r ++ [z]))) := Fr.new hs3
      refine ⟨_, rfl, _, rfl, _, _, rfl, rfl, _, rfl, lp, xs, rfl, sqL (g3.oth _ _ (g2.oth _ _ (g1.oth _ _ hl5 (by simp)) (by simp)) (by simp)), ?_⟩
      rw [k2]
      intro s4 hs4
      have g4 : Fr [] (upd HA s3 (.lst (xs.take r ++ [z]))) (upd (upd HA s3 (.lst (xs.take r ++ [z]))) s4 (.lst (xs.drop (r + 2)))) := Fr.new hs4
      have cl2 : (xs.drop (r + 2)).length ≤ xs.length := by rw [List.length_drop]; omega
      refine ⟨s3, s4, _, _, rfl, rfl, g4.oth _ _ upd_same (by simp), upd_same, mil (by rw [List.length_append, List.length_singleton]; omega), fun s5 hs5 => ?_⟩
      generalize hB : upd (upd HA s3 (.lst (xs.take r ++ [z]))) s4 (.lst (xs.drop (r + 2))) = HB at g4 hs5
      have g5 : Fr [] HB (upd HB s5 (.lst (xs.take r ++ [z] ++ xs.drop (r + 2)))) := Fr.new hs5
      have gg := ((g1.trans g2).trans g3).trans g4
      have GB := G5.fr0 gg
      show D.nx _ _
      rw [hD]
      refine ⟨s5, cs.take r ++ [e] ++ cs.drop (r + 2), _, j1, _, _, _, _, rfl, ?_, GB.fr0 g5, upd_same, GB.ne hs5, ?_, ?_, ?_, ?_⟩
      · exact (((f0.trans (f1.mono (by simp))).trans (f2.mono (by simp))).trans (f3.mono (by simp))).trans ((f5.mono (by simp)).trans ((gg.trans g5).mono (by simp)))
      · rw [datas_app, datas_app, datas_take, datas_drop, Cn.datas, Cn.datas]
        exact (((ht5.fr gg).fr g5).take r |>.append (.cons ((tz.fr gg).fr g5) .nil)).append (((ht5.fr gg).fr g5).drop (r + 2))
      · rw [List.length_append, List.length_append, List.length_singleton]
        omega
      · have := congrArg List.length e3
        rw [List.length_append, List.length_cons, List.length_cons] at this
        rw [List.length_append, List.length_append, List.length_singleton]
        omega
      · have := P.join e3 b he
        exact this
    refine ⟨l2, _, _, _, rfl, rfl, sqL hl23, atI_nat hb, _, rfl, _, rfl, lp, _, _, _, rfl, rfl, sqL hl3, atI_nat ev, _, rfl, _, rfl, _, _, rfl, rfl, lp, _, _, _, rfl, rfl, sqL hl3, atI_nat (j := r + 1) eu, b, v, u, c, d, rfl, tv, tu, small, fun H4 z f4 tz => ?_⟩
    refine g_draw 4 rfl (G3.fr0 f4).tp fun H5 q2 f5 t5 hq2 => ⟨rfl, _, rfl, ?_⟩
    refine iteB (fun _ => ⟨_, rfl, two_le, fun p hp => ?_⟩) fun _ => cat H5 z _ ((f4.mono (by simp)).trans f5) t5 (tz.fr f5) (.inl rfl)
    have fn : Fr [] H5 (upd H5 p (.tup [.str "not", z])) := Fr.new hp
    refine cat _ (.ref p) (.neg (jn b c d)) (((f4.mono (by simp)).trans f5).trans (fn.mono (by simp))) (t5.fr0 fn) ?_ (.inr rfl)
    rw [Cn.data]
    exact TD.mk2 upd_same (.str _) ((tz.fr f5).fr fn)
  · refine iteFb (decide_eq_false (by rw [xl]; omega)) ?_
    show D.nx _ H'
    rw [hD]
    exact ⟨lp, cs, xs, j1, _, _, _, _, rfl, f0, G, hl, hne, ht, h1, by omega, ⟨P.wf, P.lf, Nat.le_trans P.ng (by omega), Nat.le_trans P.js (by omega)⟩⟩
def tcL (K : PySem.W.Frag) (E : XK) : TS := (tSeq (tAsg (tCal spLeaf E (tCons (tVar 0) (tCons (tVar 1) (tCons (tVar 2) tNil)))) (gName 6))
  (tSeq (tFor (iRng1 (tCons (tOp (rIxL K) (tLst (tCons (tC (.int 0)) (tCons (tC (.int 0)) (tCons (tC (.int 0)) (tCons (tC (.int 1)) (tCons (tC (.int 2)) tNil)))))) (tCal spDraw E (tCons (tVar 0) (tCons (tC (.int 5)) tNil)))) tNil)) (gName 7) (tAsg (tTup (tCons (tC (.str "not")) (tCons (tVar 6) tNil))) (gName 6)))
  (tDrop (tBM K "list" rAppend (tVar 4) (tCons (tVar 6) tNil)))))
def CN5 : List Int := [0, 0, 0, 1, 2]
theorem cn5 {r : Nat} (h : r < max 5 1) : ∃ n : Int, (CN5.map V.int)[r]? = some (.int n) ∧ 0 ≤ n ∧ n ≤ 2 := by
  have e : ∀ r < 5, ((CN5[r]?).map fun n => decide (0 ≤ n ∧ n ≤ 2)) = some true := by decide
  obtain ⟨n, e1, e2⟩ := Option.map_eq_some_iff.mp (e r (by omega))
  have := of_decide_eq_true e2
  exact ⟨n, by rw [List.getElem?_map, e1]; rfl, this.1, this.2⟩
theorem lf_facts {c : Cn} (h : isLf c = true) : lfN c = 1 ∧ ngC c = 0 ∧ jsC c = 0 := by
  cases c with
  | call _ => simp [lfN, ngC, jsC]
  | flag _ => simp [lfN, ngC, jsC]
  | neg _ => cases h
  | chn _ _ => cases h
/-- while leaves are drawn -/
def ClQ (a s ln wl fr lp : Addr) (H : Hp) (nms : List Str) (k : Nat) : L2.St → Hp → Prop := fun σ H' => ∃ (cs : List Cn) (xs : List V) (j1 : Int) (p5 p6 p7 : Option V), σ = [some (.ref a), some (.ref wl), some (.ref ln), some (.int 4), some (.ref lp), p5, p6, p7, none] ∧ Fr [a, fr] H H' ∧ Gw a s ln wl fr H' nms j1 99 ∧ H' lp = some (.lst xs) ∧ TDs H' xs (Cn.datas cs) ∧ cs.length = k ∧ CsP nms cs k (2 * k) 0
theorem cond_l {a s ln wl fr lp : Addr} {H H' : Hp} {nms : List Str} {k : Nat} {D : Ends} {E : XK} {σ : L2.St} {kv : V} (hne : ∀ x ∈ [a, s, ln, wl, fr], x ∉ [lp]) (hnl : H lp = none) (h : ClQ a s ln wl fr lp H nms k σ H') (hk : k < 4) (hD : D.nx = ClQ a s ln wl fr lp H nms (k + 1)) : tcL K E D (σ.set 5 (some kv)) H' := by
  obtain ⟨cs, xs, j1, p5, p6, p7, rfl, f0, G, hl, ht, hc, P⟩ := h
  have hla : lp ≠ a := fun z => hne a (by simp) (by rw [z]; simp)
  have hlf : lp ≠ fr := fun z => hne fr (by simp) (by rw [z]; simp)
  have lm : lp ∉ [a, fr] := by
    simp only [List.mem_cons, List.not_mem_nil, or_false]
    exact fun z => z.elim hla hlf
  have xl : xs.length = cs.length := by rw [ht.length, Cn.datas_map, List.length_map]
  refine ⟨_, rfl, _, rfl, _, rfl, a, s, ln, wl, fr, nms, j1, 99, rfl, G, fun H1 v c j2 f1 G1 tv hw hi => ?_⟩
  obtain ⟨l1, l2, l3⟩ := lf_facts hi
  refine ⟨(show 5 ≤ sizeLine by decide), fun l9 hl9 => ?_⟩
  have f2 : Fr [] H1 (upd H1 l9 (.lst (CN5.map V.int))) := Fr.new hl9
  have n9 := G1.tp.nea hl9
  refine g_draw 5 rfl (G1.fr0 f2).tp fun H3 r f3 t3 hr => ?_
  obtain ⟨n, e, hn0, hn2⟩ := cn5 hr
  have G3 := (G1.fr0 f2).step f3 t3
  refine ⟨l9, _, _, _, rfl, rfl, sqL (f3.oth _ _ upd_same (by simpa using n9.1)), atI_nat e, _, rfl, by omega, by omega, ?_⟩
  have hl1 := f1.oth _ _ hl lm
  have hl3 := f3.oth _ _ (f2.oth _ _ hl1 (by simp)) (by simpa using hla)
  have ht3 := ((ht.fr f1).fr f2).fr f3
  refine for_range (fun j σ H' => ∃ (v : V) (c : Cn) (p7 : Option V), σ = [some (.ref a), some (.ref wl), some (.ref ln), some (.int 4), some (.ref lp), some kv, some v, p7, none] ∧ Fr [] H3 H' ∧ TD H' v c.data ∧ wfC nms c ∧ lfN c = 1 ∧ ngC c ≤ j ∧ jsC c = 0) ⟨v, c, p7, rfl, Fr.refl, (tv.fr f2).fr f3, hw, l1, by omega, l3⟩ ?_ ?_
  · rintro j σ H4 hj ⟨v, c, p7, rfl, f4, tv, hw, l1, l2, l3⟩
    refine ⟨_, rfl, two_le, fun p hp => ?_⟩
    have fn : Fr [] H4 (upd H4 p (.tup [.str "not", v])) := Fr.new hp
    refine ⟨.ref p, .neg c, _, rfl, f4.trans fn, by rw [Cn.data]; exact TD.mk2 upd_same (.str _) (tv.fr fn), by rw [wfC]; exact hw, by rw [lfN]; exact l1, by rw [ngC]; omega, by rw [jsC]; exact l3⟩
  · rintro σ H4 ⟨v, c, p7, rfl, f4, tv, hw, l1, l2, l3⟩
    have hl4 := f4.oth _ _ hl3 (by simp)
    refine ⟨_, rfl, .inl ⟨rfl, _, sqL hl4⟩, _, rfl, lp, xs, v, rfl, rfl, hl4, mil2 (by omega), ?_⟩
    have f5 : Fr [lp] H4 (upd H4 lp (.lst (xs ++ [v]))) := Fr.put hl4 (List.mem_singleton.mpr rfl)
    show D.nx _ _
    rw [hD]
    refine ⟨cs ++ [c], xs ++ [v], j2, _, _, _, rfl, ?_, (G3.fr0 f4).any f5 hne, upd_same, ?_, by rw [List.length_append, List.length_singleton, hc], ?_⟩
    · exact ((((f0.trans f1).trans (f2.mono (by simp))).trans (f3.mono (by simp))).trans (f4.mono (by simp))).out hnl
    · rw [datas_app, Cn.datas, Cn.datas]
      exact ((ht3.fr f4).fr f5).append (.cons (tv.fr f5) .nil)
    · exact P.snoc hw l1 (by omega) l3
end
end K18

/-! G8: conditions -/
namespace K18
open PySem PySem.Spec L2
open PyProof.Rows hiding St

theorem at5 {α : Type} {a b c d e f : α} {r : List α} : atI (a :: b :: c :: d :: e :: f :: r) (5 : Int) = some f := atI_nat (j := 5) rfl
section
variable {wd : World} {K : PySem.W.Frag} {mg : Str → Option Value} {base : Heap} {w : Rw}
theorem pure_gcond (vs : List V) (H : Hp) (Q : VK) (E : XK) (h : spGCond vs H Q E) : t_l_condition K E { nx := fun _ H' => Q .non H', rt := Q } (start N_l_condition vs) H := by
  obtain ⟨a, s, ln, wl, fr, nms, k1, rfl, G, q⟩ := h
  have n1 := G.n1
  have tr : TruV K (.ref ln) H true := .inl ⟨_, sqL G.hn, by
    cases nms with
    | nil => cases n1
    | cons _ _ => rfl⟩
  refine ⟨_, rfl, _, tr, iteF ?_⟩
  refine ⟨_, rfl, wl, _, 0, _, rfl, rfl, sqL G.hw, at0, fr, _, 5, _, rfl, rfl, sqL G.hf, at5, _, _, rfl, rfl, _, rfl, iteFb (by decide) ?_⟩
  refine ⟨Nat.zero_le _, fun lp hlp => ?_⟩
  have f1 : Fr [] H (upd H lp (.lst [])) := Fr.new hlp
  have hne := G.ne hlp
  have G1 := G.fr0 f1
  have hla : lp ≠ a := fun z => hne a (by simp) (by rw [z]; simp)
  refine ⟨_, rfl, _, rfl, three_le, fun l5 hl5 => ?_⟩
  have f2 : Fr [] (upd H lp (.lst [])) (upd (upd H lp (.lst [])) l5 (.lst [.int 1, .int 1, .int 4])) := Fr.new hl5
  have n5 := G1.tp.nea hl5
  refine g_draw 3 rfl (G1.fr0 f2).tp fun H3 r f3 t3 hr => ?_
  have G3 := (G1.fr0 f2).step f3 t3
  have hm : ∃ m : Nat, ([V.int 1, .int 1, .int 4] : List V)[r]? = some (.int (m : Int)) ∧ 1 ≤ m ∧ m ≤ 4 := by
    match r, hr with
    | 0, _ => exact ⟨1, rfl, by decide, by decide⟩
    | 1, _ => exact ⟨1, rfl, by decide, by decide⟩
    | 2, _ => exact ⟨4, rfl, by decide, by decide⟩
  obtain ⟨m, em, hm1, hm4⟩ := hm
  refine ⟨l5, _, _, _, rfl, rfl, sqL (f3.oth _ _ upd_same (by simpa using n5.1)), atI_nat em, a, s, m, rfl, by omega, G3.tp, fun H4 r2 f4 t4 hr2 => ?_⟩
  have G4 := G3.step f4 t4
  refine ⟨_, _, rfl, rfl, _, rfl, by omega, by omega, ?_⟩
  rw [show ((1 : Int) + (r2 : Int)).toNat = r2 + 1 by omega]
  have hl4 : H4 lp = some (.lst []) := f4.oth _ _ (f3.oth _ _ (f2.oth _ _ upd_same (by simp)) (by simpa using hla)) (by simpa using hla)
  have fH4 : Fr [a, fr] H H4 := (((f1.trans f2).mono (by simp)).trans (f3.mono (by simp))).trans (f4.mono (by simp))
  refine for_range (ClQ a s ln wl fr lp H nms) ⟨[], [], k1, none, none, none, rfl, fH4, G4, hl4, by rw [Cn.datas]; exact .nil, rfl, ⟨trivial, rfl, by simp [ngCs], by simp [jsCs]⟩⟩ ?_ ?_
  · intro i σ H' hi h
    exact cond_l hne hlp h (by omega) rfl
  · intro σ H5 h
    obtain ⟨cs, xs, j1, p5, p6, p7, rfl, f0, G5, hl, ht, hc, P⟩ := h
    refine ⟨_, rfl, by decide, by decide, ?_⟩
    rw [show ((3 : Int)).toNat = 3 by rfl]
    refine for_range (CjQ a s ln wl fr H nms (r2 + 1)) ⟨lp, cs, xs, j1, p5, p6, p7, none, rfl, f0, G5, hl, hne, ht, by omega, by omega, ⟨P.wf, P.lf, P.ng, P.js⟩⟩ ?_ ?_
    · intro i σ H' hi h
      exact cond_j (by omega) h hi rfl
    · rintro σ H6 ⟨lp, cs, xs, j1, p5, p6, p7, p8, rfl, f0, G6, hl, hne, ht, h1, h2, P⟩
      obtain ⟨c, rfl⟩ : ∃ c, cs = [c] := List.length_eq_one_iff.mp (by omega)
      rw [Cn.datas, Cn.datas] at ht
      obtain ⟨v, ys, rfl, tv, hys⟩ := ht.cons_inv
      have dr : drC nms c := by
        obtain ⟨p1, p2, p3, p4⟩ := P
        rw [wfCs] at p1
        rw [lfNs, lfNs] at p2
        rw [ngCs, ngCs] at p3
        rw [jsCs, jsCs] at p4
        exact ⟨p1.1, by omega, by omega, by omega⟩
      refine ⟨_, rfl, wl, _, 0, _, rfl, rfl, sqL G6.hw, at0, fr, _, 5, _, rfl, rfl, sqL G6.hf, at5, _, rfl, lp, _, 0, v, rfl, rfl, sqL hl, at0, v, c, rfl, tv, dr.okC.1, fun H7 u f7 hu => ?_⟩
      obtain rfl : u = .int (nd c) := TD.int_inv hu
      have G7 := G6.fr0 f7
      refine ⟨_, _, rfl, rfl, _, rfl, wl, _, 0, _, rfl, rfl, sqL G7.hw, at0, fr, _, 5, 5, rfl, rfl, G7.hf, rfl, ?_⟩
      obtain ⟨f8, G8⟩ := G7.put j1 (99 - nd c)
      have hl7 := f7.oth _ _ hl (by simp)
      have lfr : lp ≠ fr := fun z => hne fr (by simp) (by rw [z]; simp)
      refine ⟨_, rfl, lp, _, 0, v, rfl, rfl, sqL (by rw [upd_ne lfr]; exact hl7), at0, ?_⟩
      exact q _ v c ((f0.trans (f7.mono (by simp))).trans f8) G8.tp ((tv.fr f7).fr f8) dr
theorem ok_gcond (T : Txt K mg) : CalS R0 wd K mg base 23 "_law_condition" spGCond := by
  refine cal_s T.d_l_condition T.g_l_condition sc_l_condition (fun _ _ _ _ _ _ us hl => match us, hl with | [_, _, _], _ => rfl) (fun vs H Q E h => ?_) (fun cdv A outer s H vs Q E hr h => ⟨t_l_condition K E, ?_, pure_gcond vs H Q E h⟩)
  · obtain ⟨a, s, ln, wl, fr, nms, k1, rfl, _⟩ := h
    rfl
  · exact (pss_cons (ps_set (i := 3) sc_l_condition.nd rfl (Or.inl rfl) pe_int)
      (pss_cons (ps_if (pt_not (pt_truth (pv 2) (by intro _; rfl))) (pss_one (ps_set (i := 3) sc_l_condition.nd rfl (Or.inl rfl) (pe_callB (call_min2 rfl) rfl T.f_min (by decide +kernel) (pa_cons pe_int (pa_cons (pe_ix ix_list (pe_ix ix_list (pv 1) pe_int (fun _ _ => rfl)) pe_int (fun _ _ => rfl)) pa_nil))))) pss_nil)
      (pss_cons (ps_if (pt_cmpR op_lt (pe_ix ix_list (pe_ix ix_list (pv 1) pe_int (fun _ _ => rfl)) pe_int (fun _ _ => rfl)) pe_int (nomark _)) (pss_cons (ps_asg (pe_op op_sub (pe_ix ix_list (pe_ix ix_list (pv 1) pe_int (fun _ _ => rfl)) pe_int (fun _ _ => rfl)) pe_int) (pg_sub (pe_ix ix_list (pv 1) pe_int (fun _ _ => rfl)) pe_int set_list))
      (pss_one (ps_ret (pc (ok_leaf T) hr (by omega) passE rfl (pa_cons (pv 0) (pa_cons (pv 1) (pa_cons (pv 2) pa_nil))))))) pss_nil)
      (pss_cons (ps_set (i := 4) sc_l_condition.nd rfl (Or.inl rfl) (pe_lst pa_nil))
      (pss_cons (ps_for ownE rfl (pi_range1 rfl T.f_range (pa_cons (pe_op op_add pe_int (pc (ok_draw T) hr (by omega) passE rfl (pa_cons (pv 0) (pa_cons (pe_ix ix_list (pe_lst (pa_cons pe_int (pa_cons pe_int (pa_cons (pv 3) pa_nil)))) (pc (ok_draw T) hr (by omega) passE rfl (pa_cons (pv 0) (pa_cons pe_int pa_nil))) (fun _ _ => rfl)) pa_nil)))) pa_nil)) (pg_name (i := 5) sc_l_condition.nd rfl (Or.inl rfl)) (pss_cons (ps_set (i := 6) sc_l_condition.nd rfl (Or.inl rfl) (pc (ok_leaf T) hr (by omega) passE rfl (pa_cons (pv 0) (pa_cons (pv 1) (pa_cons (pv 2) pa_nil)))))
      (pss_cons (ps_for ownE rfl (pi_range1 rfl T.f_range (pa_cons (pe_ix ix_list (pe_lst (pa_cons pe_int (pa_cons pe_int (pa_cons pe_int (pa_cons pe_int (pa_cons pe_int pa_nil)))))) (pc (ok_draw T) hr (by omega) passE rfl (pa_cons (pv 0) (pa_cons pe_int pa_nil))) (fun _ _ => rfl)) pa_nil)) (pg_name (i := 7) sc_l_condition.nd rfl (Or.inl rfl)) (pss_one (ps_set (i := 6) sc_l_condition.nd rfl (Or.inl rfl) (pe_tup (pa_cons pe_str (pa_cons (pv 6) pa_nil))))))
      (pss_one (ps_expr (pe_bm PySem.F.plainAttrs_list PySem.F.slot_list_append PySem.F.type_list_append mt_append (pv 4) (pa_cons (pv 6) pa_nil)))))))
      (pss_cons (ps_for ownE rfl (pi_range1 rfl T.f_range (pa_cons pe_int pa_nil)) (pg_name (i := 5) sc_l_condition.nd rfl (Or.inl rfl)) (pss_one (ps_if (pt_cmpR op_gt (pe_callB call_len_seq rfl T.f_len (by decide +kernel) (pa_cons (pv 4) pa_nil)) pe_int (nomark _)) (pss_cons (ps_set (i := 8) sc_l_condition.nd rfl (Or.inl rfl) (pc (ok_draw T) hr (by omega) passE rfl (pa_cons (pv 0) (pa_cons (pe_op op_sub (pe_callB call_len_seq rfl T.f_len (by decide +kernel) (pa_cons (pv 4) pa_nil)) pe_int) pa_nil))))
      (pss_cons (ps_set (i := 6) sc_l_condition.nd rfl (Or.inl rfl) (pc (ok_ljoined T) hr (by omega) passE rfl (pa_cons (pe_ix ix_list (pe_lst (pa_cons pe_str (pa_cons pe_str pa_nil))) (pc (ok_draw T) hr (by omega) passE rfl (pa_cons (pv 0) (pa_cons pe_int pa_nil))) (fun _ _ => rfl)) (pa_cons (pe_ix ix_list (pv 4) (pv 8) (fun _ _ => rfl)) (pa_cons (pe_ix ix_list (pv 4) (pe_op op_add (pv 8) pe_int) (fun _ _ => rfl)) pa_nil)))))
      (pss_cons (ps_if (pt_cmpR op_eq (pc (ok_draw T) hr (by omega) passE rfl (pa_cons (pv 0) (pa_cons pe_int pa_nil))) pe_int (nomark _)) (pss_one (ps_set (i := 6) sc_l_condition.nd rfl (Or.inl rfl) (pe_tup (pa_cons pe_str (pa_cons (pv 6) pa_nil))))) pss_nil)
      (pss_one (ps_set (i := 4) sc_l_condition.nd rfl (Or.inl rfl) (pe_op op_cat (pe_op op_cat (pe_slice sl_list (pv 4) po_none (po_some (pv 8))) (pe_lst (pa_cons (pv 6) pa_nil))) (pe_slice sl_list (pv 4) (po_some (pe_op op_add (pv 8) pe_int)) po_none))))))) pss_nil)))
      (pss_cons (ps_asg (pe_op op_sub (pe_ix ix_list (pe_ix ix_list (pv 1) pe_int (fun _ _ => rfl)) pe_int (fun _ _ => rfl)) (pc (ok_lparts T 20) hr (by omega) passE rfl (pa_cons (pe_ix ix_list (pv 4) pe_int (fun _ _ => rfl)) pa_nil))) (pg_sub (pe_ix ix_list (pv 1) pe_int (fun _ _ => rfl)) pe_int set_list))
      (pss_one (ps_ret (pe_ix ix_list (pv 4) pe_int (fun _ _ => rfl)))))))))))
end
end K18

/-! G9: trees -/
namespace K18
open PySem PySem.Spec L2
open PyProof.Rows hiding St
abbrev N_l_wild : List Str := ["_law_tape_here", "_law_names_here", "_law_room", "_law_depth", "_law_choice", "_law_name", "_law_label", "_law_value", "_law_number", "_law_simple", "_law_body", "_law_condition_here", "_law_second"]
theorem sc_l_wild : FnScope N_l_wild ["_law_tape_here", "_law_names_here", "_law_room", "_law_depth"] (defScope s_l_wild) := ⟨rfl, rfl, rfl, by decide +kernel, rfl, by decide +kernel, by decide +kernel⟩
def t_l_wild (K : PySem.W.Frag) (E : XK) (spT : Sp) : TS :=
  (tSeq (tAsg (tCal spDraw E (tCons (tVar 0) (tCons (tC (.int 16)) tNil))) (gName 4))
  (tSeq (tAsg (tOp (rIxL K) (tVar 1) (tCal spDraw E (tCons (tVar 0) (tCons (tCB (rLenQ K) (tCons (tVar 1) tNil)) tNil)))) (gName 5))
  (tSeq (tAsg (tOp (rIxL K) (tLst (tCons (tC .non) (tCons (tVar 5) tNil))) (tCal spDraw E (tCons (tVar 0) (tCons (tC (.int 2)) tNil)))) (gName 6))
  (tSeq (tAsg (tOp rEq (tCal spDraw E (tCons (tVar 0) (tCons (tC (.int 2)) tNil))) (tC (.int 0))) (gName 7))
  (tSeq (tIfS (tOr (tTest (tOp rEq (tVar 3) (tC (.int 0)))) (tTest (tOp rLtI (tVar 4) (tC (.int 6))))) (tSeq (tAsg (tOp (rIxL K) (tLst (tCons (tC .non) (tCons (tC (.int 0)) (tCons (tC (.int 9)) (tCons (tC (.int 10)) (tCons (tC (.int 99)) (tCons (tCal spDraw E (tCons (tVar 0) (tCons (tC (.int 100)) tNil))) tNil))))))) (tCal spDraw E (tCons (tVar 0) (tCons (tC (.int 6)) tNil)))) (gName 8))
  (tSeq (tAsg (tLst (tCons (tTup (tCons (tC (.str "call")) (tCons (tVar 5) tNil))) (tCons (tTup (tCons (tC (.str "let")) (tCons (tVar 5) (tCons (tVar 7) tNil)))) (tCons (tTup (tCons (tC (.str "set")) (tCons (tVar 5) (tCons (tVar 7) tNil)))) (tCons (tTup (tCons (tC (.str "break")) (tCons (tVar 6) tNil))) (tCons (tTup (tCons (tC (.str "continue")) (tCons (tVar 6) tNil))) tNil)))))) (gName 9))
  (tRet (tOp (rIxL K) (tOp rCat (tVar 9) (tLst (tCons (tTup (tCons (tC (.str "return")) (tCons (tVar 8) tNil))) tNil))) (tOp rModI (tCB rIntI (tCons (tVar 4) tNil)) (tC (.int 6))))))) tNext)
  (tSeq (tIfS (tTest (tOp rLtI (tVar 4) (tC (.int 8)))) (tRet (tTup (tCons (tC (.str "block")) (tCons (tCal spT E (tCons (tVar 0) (tCons (tVar 1) (tCons (tVar 2) (tCons (tOp rSubI (tVar 3) (tC (.int 1))) tNil))))) tNil)))) tNext)
  (tSeq (tIfS (tTest (tOp rEq (tVar 4) (tC (.int 8)))) (tRet (tTup (tCons (tC (.str "for")) (tCons (tVar 6) (tCons (tCal spT E (tCons (tVar 0) (tCons (tVar 1) (tCons (tVar 2) (tCons (tOp rSubI (tVar 3) (tC (.int 1))) tNil))))) tNil))))) tNext)
  (tSeq (tIfS (tTest (tOp rEq (tVar 4) (tC (.int 9)))) (tSeq (tAsg (tCal spT E (tCons (tVar 0) (tCons (tVar 1) (tCons (tVar 2) (tCons (tOp rSubI (tVar 3) (tC (.int 1))) tNil))))) (gName 10))
  (tRet (tTup (tCons (tC (.str "try")) (tCons (tVar 10) (tCons (tCal spT E (tCons (tVar 0) (tCons (tVar 1) (tCons (tVar 2) (tCons (tOp rSubI (tVar 3) (tC (.int 1))) tNil))))) tNil)))))) tNext)
  (tSeq (tAsg (tTup (tCons (tC (.str "flag")) (tCons (tVar 5) tNil))) (gName 11))
  (tSeq (tIfS (tTest (tOp rGtI (tOp (rIxL K) (tVar 2) (tC (.int 0))) (tC (.int 20)))) (tAsg (tCal spGCond E (tCons (tVar 0) (tCons (tLst (tCons (tLst (tCons (tC (.int 0)) (tCons (tC (.int 99)) (tCons (tC (.int 0)) (tCons (tC (.int 0)) (tCons (tC (.int 0)) (tCons (tC (.int 99)) tNil))))))) (tCons (tVar 1) (tCons (tVar 1) (tCons (tVar 1) tNil))))) (tCons (tVar 1) tNil)))) (gName 11)) tNext)
  (tSeq (tAsg (tOp rSubI (tOp (rIxL K) (tVar 2) (tC (.int 0))) (tCal (spPn 20) E (tCons (tVar 11) tNil))) (gSub (tVar 2) (tC (.int 0)) rSetL))
  (tSeq (tAsg (tCal spT E (tCons (tVar 0) (tCons (tVar 1) (tCons (tVar 2) (tCons (tOp rSubI (tVar 3) (tC (.int 1))) tNil))))) (gName 10))
  (tSeq (tIfS (tTest (tOp rLtI (tVar 4) (tC (.int 12)))) (tRet (tTup (tCons (tC (.str "while")) (tCons (tVar 6) (tCons (tVar 11) (tCons (tVar 10) tNil)))))) tNext)
  (tSeq (tAsg (tTup tNil) (gName 12))
  (tSeq (tIfS (tTest (tOp rLtI (tVar 4) (tC (.int 15)))) (tAsg (tCal spT E (tCons (tVar 0) (tCons (tVar 1) (tCons (tVar 2) (tCons (tOp rSubI (tVar 3) (tC (.int 1))) tNil))))) (gName 12)) tNext)
  (tRet (tTup (tCons (tC (.str "if")) (tCons (tVar 11) (tCons (tVar 10) (tCons (tVar 12) tNil)))))))))))))))))))))
abbrev N_l_tree : List Str := ["_law_tape_here", "_law_names_here", "_law_room", "_law_depth", "_law_body", "_law_k"]
theorem sc_l_tree : FnScope N_l_tree ["_law_tape_here", "_law_names_here", "_law_room", "_law_depth"] (defScope s_l_tree) := ⟨rfl, rfl, rfl, by decide +kernel, rfl, by decide +kernel, by decide +kernel⟩
def t_l_tree (K : PySem.W.Frag) (E : XK) (spW : Sp) : TS :=
  (tSeq (tAsg (tLst tNil) (gName 4))
  (tSeq (tFor (iRng1 (tCons (tOp (rIxL K) (tLst (tCons (tC (.int 0)) (tCons (tC (.int 1)) (tCons (tC (.int 1)) (tCons (tC (.int 2)) (tCons (tC (.int 2)) (tCons (tC (.int 3)) tNil))))))) (tCal spDraw E (tCons (tVar 0) (tCons (tC (.int 6)) tNil)))) tNil)) (gName 5) (tIfS (tTest (tOp rGtI (tOp (rIxL K) (tVar 2) (tC (.int 0))) (tC (.int 0)))) (tSeq (tAsg (tOp rSubI (tOp (rIxL K) (tVar 2) (tC (.int 0))) (tC (.int 1))) (gSub (tVar 2) (tC (.int 0)) rSetL))
  (tDrop (tBM K "list" rAppend (tVar 4) (tCons (tCal spW E (tCons (tVar 0) (tCons (tVar 1) (tCons (tVar 2) (tCons (tVar 3) tNil))))) tNil)))) tNext))
  (tRet (tCB (rTupQ K) (tCons (tVar 4) tNil)))))
def labO (nms : List Str) (l : Option Str) : Prop := ∀ x, l = some x → x ∈ nms
mutual
/-- a drawn statement -/
def drS (nms : List Str) : Sm → Prop
  | .call x => x ∈ nms
  | .dcl x _ => x ∈ nms
  | .set x _ => x ∈ nms
  | .ite c f s => drC nms c ∧ drL nms f ∧ drL nms s
  | .whl l c b => labO nms l ∧ drC nms c ∧ drL nms b
  | .frl l b => labO nms l ∧ drL nms b
  | .jmp w l => (w = "break" ∨ w = "continue") ∧ labO nms l
  | .ret n => ∀ k, n = some k → 0 ≤ k ∧ k ≤ 99
  | .tri b l => drL nms b ∧ drL nms l
  | .blk b => drL nms b
def drL (nms : List Str) : List Sm → Prop
  | [] => True
  | s :: r => drS nms s ∧ drL nms r
end
theorem drL_app {nms : List Str} : ∀ {a b : List Sm}, drL nms (a ++ b) ↔ drL nms a ∧ drL nms b
  | [], b => by simp [drL]
  | c :: r, b => by rw [List.cons_append, drL, drL, drL_app (a := r) (b := b), and_assoc]
theorem dB_app : ∀ a b : List Sm, dB (a ++ b) = max (dB a) (dB b)
  | [], b => by simp [dB]
  | c :: r, b => by
    rw [List.cons_append, dB, dB, dB_app r b]
    omega
/-- where trees are drawn -/
structure Gt (a s ln rm : Addr) (H : Hp) (nms : List Str) (rv : Int) : Prop where
  tp : TpS H a s
  hn : H ln = some (.lst (nms.map V.str))
  hr : H rm = some (.lst [.int rv])
  na : ln ≠ a
  ra : rm ≠ a
  rs : rm ≠ s
  rn : rm ≠ ln
  n1 : 0 < nms.length
  n4 : nms.length ≤ 4
section
variable {a s ln rm : Addr} {H H1 : Hp} {nms : List Str} {rv : Int}
theorem Gt.step (G : Gt a s ln rm H nms rv) (f : Fr [a] H H1) (t : TpS H1 a s) : Gt a s ln rm H1 nms rv :=
  ⟨t, f.oth _ _ G.hn (by simpa using G.na), f.oth _ _ G.hr (by simpa using G.ra), G.na, G.ra, G.rs, G.rn, G.n1, G.n4⟩
theorem Gt.fr0 (G : Gt a s ln rm H nms rv) (f : Fr [] H H1) : Gt a s ln rm H1 nms rv := G.step (f.mono (by simp)) (G.tp.fr0 f)
theorem Gt.any {M : List Addr} (G : Gt a s ln rm H nms rv) (f : Fr M H H1) (h : ∀ x ∈ [a, s, ln, rm], x ∉ M) : Gt a s ln rm H1 nms rv :=
  ⟨G.tp.fr f (h a (by simp)) (h s (by simp)), f.oth _ _ G.hn (h ln (by simp)), f.oth _ _ G.hr (h rm (by simp)), G.na, G.ra, G.rs, G.rn, G.n1, G.n4⟩
theorem Gt.put (G : Gt a s ln rm H nms rv) (r2 : Int) : Fr [a, rm] H (upd H rm (.lst [.int r2])) ∧ Gt a s ln rm (upd H rm (.lst [.int r2])) nms r2 := by
  have f : Fr [rm] H (upd H rm (.lst [.int r2])) := Fr.put G.hr (List.mem_singleton.mpr rfl)
  exact ⟨f.mono (by simp), G.tp.fr f (by simpa using Ne.symm G.ra) (by simpa using Ne.symm G.rs), f.oth _ _ G.hn (by simpa using Ne.symm G.rn), upd_same, G.na, G.ra, G.rs, G.rn, G.n1, G.n4⟩
theorem Gt.ne (G : Gt a s ln rm H nms rv) {p : Addr} (hp : H p = none) : ∀ x ∈ [a, s, ln, rm], x ∉ [p] := by
  have h1 := G.tp.nea hp
  have h2 : p ≠ ln := fun z => by rw [z, G.hn] at hp; cases hp
  have h3 : p ≠ rm := fun z => by rw [z, G.hr] at hp; cases hp
  intro x hx
  simp only [List.mem_cons, List.not_mem_nil, or_false] at hx ⊢
  rcases hx with rfl | rfl | rfl | rfl
  · exact Ne.symm h1.1
  · exact Ne.symm h1.2
  · exact Ne.symm h2
  · exact Ne.symm h3
end
def spTr (d : Nat) : Sp := fun vs H Q _ => ∃ (a s ln rm : Addr) (nms : List Str) (rv : Int), vs = [.ref a, .ref ln, .ref rm, .int (d : Int)] ∧ Gt a s ln rm H nms rv ∧ -1 ≤ rv ∧ ∀ H' v l r2, Fr [a, rm] H H' → Gt a s ln rm H' nms r2 → -1 ≤ r2 → (plcs l : Int) + r2 = rv → TD H' v (bdD l) → drL nms l → dB l ≤ d + 1 → Q v H'
def spWi (d : Nat) : Sp := fun vs H Q _ => ∃ (a s ln rm : Addr) (nms : List Str) (rv : Int), vs = [.ref a, .ref ln, .ref rm, .int (d : Int)] ∧ Gt a s ln rm H nms rv ∧ 0 ≤ rv ∧ ∀ H' v t r2, Fr [a, rm] H H' → Gt a s ln rm H' nms r2 → -1 ≤ r2 → (plc t : Int) + r2 = rv + 1 → TD H' v t.data → drS nms t → dpS t ≤ d → Q v H'
def TR6 : List Int := [0, 1, 1, 2, 2, 3]
theorem tr6 {r : Nat} (h : r < max 6 1) : ∃ n : Int, (TR6.map V.int)[r]? = some (.int n) ∧ 0 ≤ n ∧ n ≤ 3 := by
  have e : ∀ r < 6, ((TR6[r]?).map fun n => decide (0 ≤ n ∧ n ≤ 3)) = some true := by decide
  obtain ⟨n, e1, e2⟩ := Option.map_eq_some_iff.mp (e r (by omega))
  have := of_decide_eq_true e2
  exact ⟨n, by rw [List.getElem?_map, e1]; rfl, this.1, this.2⟩
section
variable {wd : World} {K : PySem.W.Frag} {mg : Str → Option Value} {base : Heap} {w : Rw}
theorem pure_tree {d : Nat} (vs : List V) (H : Hp) (Q : VK) (E : XK) (h : spTr d vs H Q E) : t_l_tree K E (spWi d) { nx := fun _ H' => Q .non H', rt := Q } (start N_l_tree vs) H := by
  obtain ⟨a, s, ln, rm, nms, rv, rfl, G, hrv, q⟩ := h
  refine ⟨Nat.zero_le _, fun lp hlp => ?_⟩
  have f1 : Fr [] H (upd H lp (.lst [])) := Fr.new hlp
  have hne := G.ne hlp
  have lm : lp ∉ [a, rm] := by
    simp only [List.mem_cons, List.not_mem_nil, or_false]
    exact fun z => z.elim (fun z => hne a (by simp) (by rw [z]; simp)) fun z => hne rm (by simp) (by rw [z]; simp)
  have hla : lp ≠ a := fun z => lm (by rw [z]; simp)
  have G1 := G.fr0 f1
  refine ⟨(show 6 ≤ sizeLine by decide), fun l5 hl5 => ?_⟩
  have f2 : Fr [] (upd H lp (.lst [])) (upd (upd H lp (.lst [])) l5 (.lst (TR6.map V.int))) := Fr.new hl5
  have n5 := G1.tp.nea hl5
  refine g_draw 6 rfl (G1.fr0 f2).tp fun H3 r f3 t3 hr => ?_
  have G3 := (G1.fr0 f2).step f3 t3
  obtain ⟨n, em, hn0, hn3⟩ := tr6 hr
  have hl3 : H3 lp = some (.lst []) := f3.oth _ _ (f2.oth _ _ upd_same (by simp)) (by simpa using hla)
  have fH3 : Fr [a, rm] H H3 := ((f1.trans f2).mono (by simp)).trans (f3.mono (by simp))
  refine ⟨l5, _, _, _, rfl, rfl, sqL (f3.oth _ _ upd_same (by simpa using n5.1)), atI_nat em, _, rfl, by omega, by omega, ?_⟩
  refine for_range (fun k σ H' => ∃ (l : List Sm) (xs : List V) (r2 : Int) (p5 : Option V), σ = [some (.ref a), some (.ref ln), some (.ref rm), some (.int (d : Int)), some (.ref lp), p5] ∧ Fr [a, rm] H H' ∧ Gt a s ln rm H' nms r2 ∧ -1 ≤ r2 ∧ (plcs l : Int) + r2 = rv ∧ H' lp = some (.lst xs) ∧ TDs H' xs (Sm.datas l) ∧ xs.length ≤ k ∧ drL nms l ∧ dB l ≤ d + 1)
    ⟨[], [], rv, none, rfl, fH3, G3, hrv, by simp [plcs], hl3, by rw [Sm.datas]; exact .nil, Nat.zero_le _, trivial, by simp [dB]⟩ ?_ ?_
  · rintro k σ H4 hk ⟨l, xs, r2, p5, rfl, f4, G4, h1, h2, hl, ht, hx, hd, hb⟩
    refine ⟨_, rfl, rm, _, 0, _, rfl, rfl, sqL G4.hr, at0, _, _, rfl, rfl, _, rfl, ?_⟩
    refine iteB (fun c => ?_) fun c => ⟨l, xs, r2, _, rfl, f4, G4, h1, h2, hl, ht, by omega, hd, hb⟩
    have c' : (0 : Int) < r2 := of_decide_eq_true c
    refine ⟨_, rfl, rm, _, 0, _, rfl, rfl, sqL G4.hr, at0, _, _, rfl, rfl, _, rfl, rm, _, 0, 0, rfl, rfl, G4.hr, rfl, ?_⟩
    obtain ⟨f5, G5⟩ := G4.put (r2 - 1)
    have hl5 := f5.oth _ _ hl lm
    refine ⟨_, rfl, .inl ⟨rfl, _, sqL hl5⟩, _, rfl, _, rfl, _, rfl, _, rfl, a, s, ln, rm, nms, r2 - 1, rfl, G5, by omega, fun H6 v t r3 f6 G6 h3 h4 tv dt db => ?_⟩
    have hl6 := f6.oth _ _ hl5 lm
    refine ⟨lp, xs, v, rfl, rfl, hl6, mil2 (by omega), ?_⟩
    have f7 : Fr [lp] H6 (upd H6 lp (.lst (xs ++ [v]))) := Fr.put hl6 (List.mem_singleton.mpr rfl)
    refine ⟨l ++ [t], xs ++ [v], r3, _, rfl, ((f4.trans f5).trans f6).out hlp, G6.any f7 hne, h3, ?_, upd_same, ?_, by rw [List.length_append, List.length_singleton]; omega, drL_app.mpr ⟨hd, dt, trivial⟩, ?_⟩
    · rw [plcs_append, plcs, plcs]
      omega
    · rw [Sm.datas_map, List.map_append, ← Sm.datas_map]
      exact (((ht.fr f5).fr f6).fr f7).append (.cons (tv.fr f7) .nil)
    · rw [dB_app, dB, dB]
      omega
  · rintro σ H4 ⟨l, xs, r2, p5, rfl, f4, G4, h1, h2, hl, ht, hx, hd, hb⟩
    refine ⟨_, rfl, lp, xs, rfl, .inl ⟨sqL hl, fun t ht' => ?_⟩⟩
    have f5 : Fr [] H4 (upd H4 t (.tup xs)) := Fr.new ht'
    exact q _ _ l r2 (f4.trans (f5.mono (by simp))) (G4.fr0 f5) h1 h2 (.tup upd_same (ht.fr f5)) hd hb
end
end K18

/-! G10: statements drawn: simple ones -/
namespace K18
open PySem PySem.Spec L2
open PyProof.Rows hiding St
def vOI : Option Int → V
  | none => .non
  | some k => .int k
theorem TD.optI {H : Hp} : ∀ l : Option Int, TD H (vOI l) (optI l)
  | none => .non
  | some x => .int x
def twS (K : PySem.W.Frag) (E : XK) : TS := (tSeq (tAsg (tOp (rIxL K) (tLst (tCons (tC .non) (tCons (tC (.int 0)) (tCons (tC (.int 9)) (tCons (tC (.int 10)) (tCons (tC (.int 99)) (tCons (tCal spDraw E (tCons (tVar 0) (tCons (tC (.int 100)) tNil))) tNil))))))) (tCal spDraw E (tCons (tVar 0) (tCons (tC (.int 6)) tNil)))) (gName 8))
  (tSeq (tAsg (tLst (tCons (tTup (tCons (tC (.str "call")) (tCons (tVar 5) tNil))) (tCons (tTup (tCons (tC (.str "let")) (tCons (tVar 5) (tCons (tVar 7) tNil)))) (tCons (tTup (tCons (tC (.str "set")) (tCons (tVar 5) (tCons (tVar 7) tNil)))) (tCons (tTup (tCons (tC (.str "break")) (tCons (tVar 6) tNil))) (tCons (tTup (tCons (tC (.str "continue")) (tCons (tVar 6) tNil))) tNil)))))) (gName 9))
  (tRet (tOp (rIxL K) (tOp rCat (tVar 9) (tLst (tCons (tTup (tCons (tC (.str "return")) (tCons (tVar 8) tNil))) tNil))) (tOp rModI (tCB rIntI (tCons (tVar 4) tNil)) (tC (.int 6)))))))
section
variable {wd : World} {K : PySem.W.Frag} {mg : Str → Option Value} {base : Heap} {w : Rw}
theorem wild_s {a s ln rm : Addr} {nms : List Str} {rv : Int} {H : Hp} {D : Ends} {E : XK} {d r0 : Nat} {y : Str} {lab : Option Str} {b : Bool} {p8 p9 p10 p11 p12 : Option V} (G : Gt a s ln rm H nms rv) (hy : y ∈ nms) (hl : labO nms lab)
    (q : ∀ H' v t, Fr [a] H H' → Gt a s ln rm H' nms rv → plc t = 1 → TD H' v t.data → drS nms t → dpS t = 0 → D.rt v H') :
    twS K E D [some (.ref a), some (.ref ln), some (.ref rm), some (.int (d : Int)), some (.int (r0 : Int)), some (.str y), some (vOpt lab), some (.bl b), p8, p9, p10, p11, p12] H := by
  refine g_draw 100 rfl G.tp fun H1 r1 f1 t1 hr1 => ?_
  have G1 := G.step f1 t1
  refine ⟨(show 6 ≤ sizeLine by decide), fun l0 hl0 => ?_⟩
  have f2 : Fr [] H1 (upd H1 l0 (.lst [.non, .int 0, .int 9, .int 10, .int 99, .int (r1 : Int)])) := Fr.new hl0
  have n0 := G1.tp.nea hl0
  refine g_draw 6 rfl (G1.fr0 f2).tp fun H3 r2 f3 t3 hr2 => ?_
  have G3 := (G1.fr0 f2).step f3 t3
  have hv : ∃ n : Option Int, ([.non, .int 0, .int 9, .int 10, .int 99, .int (r1 : Int)] : List V)[r2]? = some (vOI n) ∧ ∀ k, n = some k → 0 ≤ k ∧ k ≤ 99 := by
    match r2, hr2 with
    | 0, _ => exact ⟨none, rfl, fun _ e => by cases e⟩
    | 1, _ => exact ⟨some 0, rfl, fun _ e => by cases e; decide⟩
    | 2, _ => exact ⟨some 9, rfl, fun _ e => by cases e; decide⟩
    | 3, _ => exact ⟨some 10, rfl, fun _ e => by cases e; decide⟩
    | 4, _ => exact ⟨some 99, rfl, fun _ e => by cases e; decide⟩
    | 5, _ => exact ⟨some (r1 : Int), rfl, fun _ e => by cases e; omega⟩
  obtain ⟨n, en, hn⟩ := hv
  refine ⟨l0, _, _, _, rfl, rfl, sqL (f3.oth _ _ upd_same (by simpa using n0.1)), atI_nat en, ?_⟩
  refine ⟨_, rfl, two_le, fun t1 h1 => ⟨_, rfl, _, rfl, three_le, fun t2 h2 => ⟨_, rfl, _, rfl, three_le, fun t3 h3 => ⟨_, rfl, two_le, fun t4 h4 => ⟨_, rfl, two_le, fun t5 h5 => ?_⟩⟩⟩⟩⟩
  have g1 : Fr [] H3 (upd H3 t1 (.tup [.str "call", .str y])) := Fr.new h1
  generalize e1 : upd H3 t1 (.tup [.str "call", .str y]) = A1 at h2 h3 h4 h5 g1 ⊢
  have k1 : A1 t1 = some (.tup [.str "call", .str y]) := by rw [← e1]; exact upd_same
  have g2 : Fr [] A1 (upd A1 t2 (.tup [.str "let", .str y, .bl b])) := Fr.new h2
  generalize e2 : upd A1 t2 (.tup [.str "let", .str y, .bl b]) = A2 at h3 h4 h5 g2 ⊢
  have k2 : A2 t2 = some (.tup [.str "let", .str y, .bl b]) := by rw [← e2]; exact upd_same
  have g3 : Fr [] A2 (upd A2 t3 (.tup [.str "set", .str y, .bl b])) := Fr.new h3
  generalize e3 : upd A2 t3 (.tup [.str "set", .str y, .bl b]) = A3 at h4 h5 g3 ⊢
  have k3 : A3 t3 = some (.tup [.str "set", .str y, .bl b]) := by rw [← e3]; exact upd_same
  have g4 : Fr [] A3 (upd A3 t4 (.tup [.str "break", vOpt lab])) := Fr.new h4
  generalize e4 : upd A3 t4 (.tup [.str "break", vOpt lab]) = A4 at h5 g4 ⊢
  have k4 : A4 t4 = some (.tup [.str "break", vOpt lab]) := by rw [← e4]; exact upd_same
  have g5 : Fr [] A4 (upd A4 t5 (.tup [.str "continue", vOpt lab])) := Fr.new h5
  generalize e5 : upd A4 t5 (.tup [.str "continue", vOpt lab]) = A5 at g5 ⊢
  have k5 : A5 t5 = some (.tup [.str "continue", vOpt lab]) := by rw [← e5]; exact upd_same
  refine ⟨(show 5 ≤ sizeLine by decide), fun sl hsl => ?_⟩
  have g6 : Fr [] A5 (upd A5 sl (.lst [.ref t1, .ref t2, .ref t3, .ref t4, .ref t5])) := Fr.new hsl
  generalize e6 : upd A5 sl (.lst [.ref t1, .ref t2, .ref t3, .ref t4, .ref t5]) = A6 at g6 ⊢
  have k6 : A6 sl = some (.lst [.ref t1, .ref t2, .ref t3, .ref t4, .ref t5]) := by rw [← e6]; exact upd_same
  refine ⟨_, rfl, _, rfl, two_le, fun t6 h6 => ⟨one_le, fun s2 hs2 => ?_⟩⟩
  have g7 : Fr [] A6 (upd A6 t6 (.tup [.str "return", vOI n])) := Fr.new h6
  generalize e7 : upd A6 t6 (.tup [.str "return", vOI n]) = A7 at g7 hs2 ⊢
  have k7 : A7 t6 = some (.tup [.str "return", vOI n]) := by rw [← e7]; exact upd_same
  have g8 : Fr [] A7 (upd A7 s2 (.lst [.ref t6])) := Fr.new hs2
  refine ⟨sl, s2, _, _, rfl, rfl, g8.oth _ _ (g7.oth _ _ k6 (by simp)) (by simp), upd_same, (show 5 + 1 ≤ sizeLine by decide), fun s3 hs3 => ?_⟩
  generalize e8 : upd A7 s2 (.lst [.ref t6]) = A8 at g8 hs3 ⊢
  have g9 : Fr [] A8 (upd A8 s3 (.lst [.ref t1, .ref t2, .ref t3, .ref t4, .ref t5, .ref t6])) := Fr.new hs3
  have gz := ((((((((g1.trans g2).trans g3).trans g4).trans g5).trans g6).trans g7).trans g8).trans g9)
  have fz : Fr [a] H (upd A8 s3 (.lst [.ref t1, .ref t2, .ref t3, .ref t4, .ref t5, .ref t6])) := ((f1.trans (f2.mono (by simp))).trans f3).trans (gz.mono (by simp))
  have Gz := G3.fr0 gz
  have m9 : ∀ t xs, A8 t = some (.tup xs) → (upd A8 s3 (.lst [.ref t1, .ref t2, .ref t3, .ref t4, .ref t5, .ref t6])) t = some (.tup xs) := fun t xs h => g9.tup _ _ h
  have em : (r0 : Int) % 6 = ((r0 % 6 : Nat) : Int) := by omega
  refine ⟨_, rfl, .inl ⟨_, rfl, _, _, rfl, rfl, (show (0 : Int) < 6 by decide), ?_⟩⟩
  show rIxL K (.ref s3) (.int ((r0 : Int) % 6)) (upd A8 s3 (.lst [.ref t1, .ref t2, .ref t3, .ref t4, .ref t5, .ref t6])) D.rt
  rw [em]
  have hj : r0 % 6 < 6 := Nat.mod_lt _ (by decide)
  generalize r0 % 6 = j at hj
  have go : ∀ (v : V) (t : Sm), ([.ref t1, .ref t2, .ref t3, .ref t4, .ref t5, .ref t6] : List V)[j]? = some v → plc t = 1 → TD (upd A8 s3 (.lst [.ref t1, .ref t2, .ref t3, .ref t4, .ref t5, .ref t6])) v t.data → drS nms t → dpS t = 0 →
      rIxL K (.ref s3) (.int (j : Int)) (upd A8 s3 (.lst [.ref t1, .ref t2, .ref t3, .ref t4, .ref t5, .ref t6])) D.rt := fun v t e a1 a2 a3 a4 => ⟨s3, _, _, v, rfl, rfl, sqL upd_same, atI_nat e, q _ v t fz Gz a1 a2 a3 a4⟩
  match j, hj with
  | 0, _ => exact go _ (.call y) rfl (by rw [plc]) (by rw [Sm.data]; exact TD.mk2 (m9 _ _ (g8.tup _ _ (g7.tup _ _ (g6.tup _ _ (g5.tup _ _ (g4.tup _ _ (g3.tup _ _ (g2.tup _ _ k1)))))))) (.str _) (.str _)) hy (by rw [dpS])
  | 1, _ => exact go _ (.dcl y b) rfl (by rw [plc]) (by rw [Sm.data]; exact TD.mk3 (m9 _ _ (g8.tup _ _ (g7.tup _ _ (g6.tup _ _ (g5.tup _ _ (g4.tup _ _ (g3.tup _ _ k2))))))) (.str _) (.str _) (.bl _)) hy (by rw [dpS])
  | 2, _ => exact go _ (.set y b) rfl (by rw [plc]) (by rw [Sm.data]; exact TD.mk3 (m9 _ _ (g8.tup _ _ (g7.tup _ _ (g6.tup _ _ (g5.tup _ _ (g4.tup _ _ k3)))))) (.str _) (.str _) (.bl _)) hy (by rw [dpS])
  | 3, _ => exact go _ (.jmp "break" lab) rfl (by rw [plc]) (by rw [Sm.data]; exact TD.mk2 (m9 _ _ (g8.tup _ _ (g7.tup _ _ (g6.tup _ _ (g5.tup _ _ k4))))) (.str _) (.opt lab)) ⟨.inl rfl, hl⟩ (by rw [dpS])
  | 4, _ => exact go _ (.jmp "continue" lab) rfl (by rw [plc]) (by rw [Sm.data]; exact TD.mk2 (m9 _ _ (g8.tup _ _ (g7.tup _ _ (g6.tup _ _ k5)))) (.str _) (.opt lab)) ⟨.inr rfl, hl⟩ (by rw [dpS])
  | 5, _ => exact go _ (.ret n) rfl (by rw [plc]) (by rw [Sm.data]; exact TD.mk2 (m9 _ _ (g8.tup _ _ k7)) (.str _) (.optI n)) hn (by rw [dpS])
end
end K18

/-! G11: statements drawn -/
namespace K18
open PySem PySem.Spec L2
open PyProof.Rows hiding St

section
variable {wd : World} {K : PySem.W.Frag} {mg : Str → Option Value} {base : Heap} {w : Rw}
theorem g_tree {σ : L2.St} {H : Hp} {Q : VK} {E : XK} {a s ln rm : Addr} {nms : List Str} {rv : Int} {d : Nat} (h0 : σ[0]? = some (some (.ref a))) (h1 : σ[1]? = some (some (.ref ln))) (h2 : σ[2]? = some (some (.ref rm))) (h3 : σ[3]? = some (some (.int ((d + 1 : Nat) : Int)))) (G : Gt a s ln rm H nms rv) (hrv : -1 ≤ rv)
    (q : ∀ H' v l r2, Fr [a, rm] H H' → Gt a s ln rm H' nms r2 → -1 ≤ r2 → (plcs l : Int) + r2 = rv → TD H' v (bdD l) → drL nms l → dB l ≤ d + 1 → Q v H') :
    tCal (spTr d) E (tCons (tVar 0) (tCons (tVar 1) (tCons (tVar 2) (tCons (tOp rSubI (tVar 3) (tC (.int 1))) tNil)))) σ H Q :=
  ⟨_, h0, _, h1, _, h2, _, h3, _, _, rfl, rfl, a, s, ln, rm, nms, rv, congrArg (fun z => [V.ref a, .ref ln, .ref rm, .int z]) (by omega), G, hrv, q⟩
theorem Fr.drop2 {a x : Addr} {H H0 H' : Hp} (f : Fr [] H H0) (g : Fr [a, x] H0 H') (hx : H x = none) : Fr [a] H H' :=
  ⟨fun b xs e => g.tup _ _ (f.tup _ _ e), fun b o e n => g.oth _ _ (f.oth _ _ e (by simp)) (by
    intro z
    rcases List.mem_cons.mp z with z | z
    · exact n (by rw [z]; simp)
    · rw [List.mem_singleton.mp z, hx] at e
      cases e)⟩
theorem pure_wild {d : Nat} {spT : Sp} (hT : ∀ d', d = d' + 1 → spT = spTr d') (vs : List V) (H : Hp) (Q : VK) (E : XK) (h : spWi d vs H Q E) : t_l_wild K E spT { nx := fun _ H' => Q .non H', rt := Q } (start N_l_wild vs) H := by
  obtain ⟨a, s, ln, rm, nms, rv, rfl, G, hrv, q⟩ := h
  refine g_draw 16 rfl G.tp fun H1 r0 f1 t1 hr0 => ?_
  have G1 := G.step f1 t1
  refine ⟨_, rfl, _, rfl, _, rfl, ln, _, rfl, .inl (sqL G1.hn), a, s, nms.length, by rw [List.length_map], by have := G.n4; omega, G1.tp, fun H2 r f2 t2 hr => ?_⟩
  have G2 := G1.step f2 t2
  obtain ⟨y, e, hy⟩ := nm_at G.n1 hr
  refine ⟨ln, _, _, _, rfl, rfl, sqL G2.hn, atI_nat e, ?_⟩
  refine ⟨_, rfl, two_le, fun l3 hl3 => ?_⟩
  have f3 : Fr [] H2 (upd H2 l3 (.lst [.non, .str y])) := Fr.new hl3
  have n3 := G2.tp.nea hl3
  refine g_draw 2 rfl (G2.fr0 f3).tp fun H4 r4 f4 t4 hr4 => ?_
  have G4 := (G2.fr0 f3).step f4 t4
  have hlab : ∃ lab : Option Str, ([.non, .str y] : List V)[r4]? = some (vOpt lab) ∧ labO nms lab := by
    match r4, hr4 with
    | 0, _ => exact ⟨none, rfl, fun _ e => by cases e⟩
    | 1, _ => exact ⟨some y, rfl, fun _ e => by cases e; exact hy⟩
  obtain ⟨lab, el, hlab⟩ := hlab
  refine ⟨l3, _, _, _, rfl, rfl, sqL (f4.oth _ _ upd_same (by simpa using n3.1)), atI_nat el, ?_⟩
  refine g_draw 2 rfl G4.tp fun H5 r5 f5 t5 hr5 => ⟨rfl, ?_⟩
  have G5 := G4.step f5 t5
  have fH : Fr [a] H H5 := ((f1.trans f2).trans (f3.mono (by simp))).trans (f4.trans f5)
  have simple : twS K E { nx := fun _ H' => Q .non H', rt := Q } [some (.ref a), some (.ref ln), some (.ref rm), some (.int (d : Int)), some (.int (r0 : Int)), some (.str y), some (vOpt lab), some (.bl (decide (V.int (r5 : Int) = V.int 0))), none, none, none, none, none] H5 :=
    wild_s G5 hy hlab fun H' v t f g p td dr dp => q H' v t rv ((fH.trans f).mono (by simp)) g (by omega) (by omega) td dr (by omega)
  refine ⟨_, rfl, rfl, _, rfl, ?_⟩
  cases d with
  | zero => exact iteTb (by decide) (iteT simple)
  | succ d =>
    rw [hT d rfl]
    refine iteFb (decide_eq_false (fun z => by have := V.int.inj z; omega)) ⟨_, rfl, _, _, rfl, rfl, _, rfl, iteB (fun _ => simple) fun _ => ?_⟩
    have fH2 : Fr [a, rm] H H5 := fH.mono (by simp)
    refine ⟨_, rfl, _, _, rfl, rfl, _, rfl, iteB (fun _ => ?_) fun _ => ?_⟩
    · refine g_tree rfl rfl rfl rfl G5 (by omega) fun H6 v l r2 f6 G6 h1 h2 tv dl db => ⟨two_le, fun p hp => ?_⟩
      have fn : Fr [] H6 (upd H6 p (.tup [.str "block", v])) := Fr.new hp
      refine q _ _ (.blk l) r2 ((fH2.trans f6).trans (fn.mono (by simp))) (G6.fr0 fn) h1 (by rw [plc]; omega) (by rw [Sm.data]; exact TD.mk2 upd_same (.str _) (TD.fr tv fn)) dl (by rw [dpS]; omega)
    refine ⟨_, rfl, rfl, _, rfl, iteB (fun _ => ?_) fun _ => ?_⟩
    · refine ⟨_, rfl, g_tree rfl rfl rfl rfl G5 (by omega) fun H6 v l r2 f6 G6 h1 h2 tv dl db => ⟨three_le, fun p hp => ?_⟩⟩
      have fn : Fr [] H6 (upd H6 p (.tup [.str "for", vOpt lab, v])) := Fr.new hp
      refine q _ _ (.frl lab l) r2 ((fH2.trans f6).trans (fn.mono (by simp))) (G6.fr0 fn) h1 (by rw [plc]; omega) (by rw [Sm.data]; exact TD.mk3 upd_same (.str _) (.opt lab) (TD.fr tv fn)) ⟨hlab, dl⟩ (by rw [dpS]; omega)
    refine ⟨_, rfl, rfl, _, rfl, iteB (fun _ => ?_) fun _ => ?_⟩
    · refine g_tree rfl rfl rfl rfl G5 (by omega) fun H6 v l r2 f6 G6 h1 h2 tv dl db => ?_
      refine ⟨_, rfl, g_tree rfl rfl rfl rfl G6 h1 fun H7 u m r3 f7 G7 h3 h4 tu dm dc => ⟨three_le, fun p hp => ?_⟩⟩
      have fn : Fr [] H7 (upd H7 p (.tup [.str "try", v, u])) := Fr.new hp
      refine q _ _ (.tri l m) r3 (((fH2.trans f6).trans f7).trans (fn.mono (by simp))) (G7.fr0 fn) h3 (by rw [plc]; omega) (by rw [Sm.data]; exact TD.mk3 upd_same (.str _) (TD.fr (TD.fr tv f7) fn) (TD.fr tu fn)) ⟨dl, dm⟩ (by rw [dpS]; omega)
    have tail : ∀ (H6 : Hp) (v : V) (c : Cn), Fr [a] H5 H6 → Gt a s ln rm H6 nms rv → TD H6 v c.data → drC nms c → (nd c : Int) ≤ rv + 1 →
        tSeq (tAsg (tOp rSubI (tOp (rIxL K) (tVar 2) (tC (.int 0))) (tCal (spPn 20) E (tCons (tVar 11) tNil))) (gSub (tVar 2) (tC (.int 0)) rSetL))
          (tSeq (tAsg (tCal (spTr d) E (tCons (tVar 0) (tCons (tVar 1) (tCons (tVar 2) (tCons (tOp rSubI (tVar 3) (tC (.int 1))) tNil))))) (gName 10))
          (tSeq (tIfS (tTest (tOp rLtI (tVar 4) (tC (.int 12)))) (tRet (tTup (tCons (tC (.str "while")) (tCons (tVar 6) (tCons (tVar 11) (tCons (tVar 10) tNil)))))) tNext)
          (tSeq (tAsg (tTup tNil) (gName 12))
          (tSeq (tIfS (tTest (tOp rLtI (tVar 4) (tC (.int 15)))) (tAsg (tCal (spTr d) E (tCons (tVar 0) (tCons (tVar 1) (tCons (tVar 2) (tCons (tOp rSubI (tVar 3) (tC (.int 1))) tNil))))) (gName 12)) tNext)
          (tRet (tTup (tCons (tC (.str "if")) (tCons (tVar 11) (tCons (tVar 10) (tCons (tVar 12) tNil))))))))))
          { nx := fun _ H' => Q .non H', rt := Q } [some (.ref a), some (.ref ln), some (.ref rm), some (.int ((d + 1 : Nat) : Int)), some (.int (r0 : Int)), some (.str y), some (vOpt lab), some (.bl (decide (V.int (r5 : Int) = V.int 0))), none, none, none, some v, none] H6 := by
      intro H6 v c f6 G6 tv dr hnd
      refine ⟨_, rfl, rm, _, 0, _, rfl, rfl, sqL G6.hr, at0, _, rfl, v, c, rfl, tv, dr.okC.1, fun H7 u f7 hu => ?_⟩
      obtain rfl : u = .int (nd c) := TD.int_inv hu
      have G7 := G6.fr0 f7
      refine ⟨_, _, rfl, rfl, _, rfl, rm, _, 0, 0, rfl, rfl, G7.hr, rfl, ?_⟩
      obtain ⟨f8, G8⟩ := G7.put (rv - nd c)
      have fa := ((fH2.trans (f6.mono (by simp))).trans (f7.mono (by simp))).trans f8
      refine g_tree rfl rfl rfl rfl G8 (by omega) fun H9 z l r2 f9 G9 h1 h2 tz dl db => ?_
      have tv9 := ((tv.fr f7).fr f8).fr f9
      refine ⟨_, rfl, _, _, rfl, rfl, _, rfl, iteB (fun _ => ?_) fun _ => ?_⟩
      · refine ⟨_, rfl, _, rfl, _, rfl, four_le, fun p hp => ?_⟩
        have fn : Fr [] H9 (upd H9 p (.tup [.str "while", vOpt lab, v, z])) := Fr.new hp
        refine q _ _ (.whl lab c l) r2 ((fa.trans f9).trans (fn.mono (by simp))) (G9.fr0 fn) h1 (by rw [plc]; omega) (by rw [Sm.data]; exact TD.mk4 upd_same (.str _) (.opt lab) (tv9.fr fn) (TD.fr tz fn)) ⟨hlab, dr, dl⟩ (by rw [dpS]; omega)
      refine ⟨Nat.zero_le _, fun e0 he0 => ?_⟩
      have fe : Fr [] H9 (upd H9 e0 (.tup [])) := Fr.new he0
      have Ge := G9.fr0 fe
      refine ⟨_, rfl, _, _, rfl, rfl, _, rfl, iteB (fun _ => ?_) fun _ => ?_⟩
      · refine g_tree rfl rfl rfl rfl Ge h1 fun HA x m r3 fA GA h3 h4 tx dm dc => ?_
        refine ⟨_, rfl, _, rfl, _, rfl, four_le, fun p hp => ?_⟩
        have fn : Fr [] HA (upd HA p (.tup [.str "if", v, z, x])) := Fr.new hp
        refine q _ _ (.ite c l m) r3 ((((fa.trans f9).trans (fe.mono (by simp))).trans fA).trans (fn.mono (by simp))) (GA.fr0 fn) h3 (by rw [plc]; omega) (by rw [Sm.data]; exact TD.mk4 upd_same (.str _) (((tv9.fr fe).fr fA).fr fn) (TD.fr (TD.fr (TD.fr tz fe) fA) fn) (TD.fr tx fn)) ⟨dr, dl, dm⟩ (by rw [dpS]; omega)
      · refine ⟨_, rfl, _, rfl, _, rfl, four_le, fun p hp => ?_⟩
        have fn : Fr [] (upd H9 e0 (.tup [])) (upd (upd H9 e0 (.tup [])) p (.tup [.str "if", v, z, .ref e0])) := Fr.new hp
        refine q _ _ (.ite c l []) r2 (((fa.trans f9).trans (fe.mono (by simp))).trans (fn.mono (by simp))) (Ge.fr0 fn) h1 (by rw [plc, plcs]; omega) (by rw [Sm.data]; exact TD.mk4 upd_same (.str _) ((tv9.fr fe).fr fn) (TD.fr (TD.fr tz fe) fn) (.tup (fn.tup _ _ upd_same) (by rw [Sm.datas]; exact .nil))) ⟨dr, dl, trivial⟩ (by rw [dpS, show dB ([] : List Sm) = 0 by simp [dB]]; omega)
    refine ⟨_, rfl, two_le, fun c0 hc0 => ?_⟩
    have f6 : Fr [] H5 (upd H5 c0 (.tup [.str "flag", .str y])) := Fr.new hc0
    have G6 := G5.fr0 f6
    refine ⟨_, rfl, rm, _, 0, _, rfl, rfl, sqL G6.hr, at0, _, _, rfl, rfl, _, rfl, iteB (fun c => ?_) fun _ => ?_⟩
    · have c' : (20 : Int) < rv := of_decide_eq_true c
      refine ⟨_, rfl, (show 6 ≤ sizeLine by decide), fun fr hfr => ⟨_, rfl, _, rfl, _, rfl, four_le, fun wl hwl => ?_⟩⟩
      have f7 : Fr [] (upd H5 c0 (.tup [.str "flag", .str y])) (upd (upd H5 c0 (.tup [.str "flag", .str y])) fr (.lst [.int 0, .int 99, .int 0, .int 0, .int 0, .int 99])) := Fr.new hfr
      have f8 : Fr [] (upd (upd H5 c0 (.tup [.str "flag", .str y])) fr (.lst [.int 0, .int 99, .int 0, .int 0, .int 0, .int 99])) (upd (upd (upd H5 c0 (.tup [.str "flag", .str y])) fr (.lst [.int 0, .int 99, .int 0, .int 0, .int 0, .int 99])) wl (.lst [.ref fr, .ref ln, .ref ln, .ref ln])) := Fr.new hwl
      have G7 := G6.fr0 f7
      have G8 := G7.fr0 f8
      have nf := G6.tp.nea hfr
      have nw := G7.tp.nea hwl
      have nfw : fr ≠ wl := ne_of_none upd_same hwl
      have nfl : fr ≠ ln := fun z => by rw [z, G6.hn] at hfr; cases hfr
      have W : Gw a s ln wl fr (upd (upd (upd H5 c0 (.tup [.str "flag", .str y])) fr (.lst [.int 0, .int 99, .int 0, .int 0, .int 0, .int 99])) wl (.lst [.ref fr, .ref ln, .ref ln, .ref ln])) nms 99 99 :=
        ⟨G8.tp, G8.hn, upd_same, f8.oth _ _ upd_same (by simp), G8.na, nw.1, nf.1, nf.2, nfl, nfw, G8.n1, G8.n4⟩
      refine ⟨_, rfl, a, s, ln, wl, fr, nms, 99, rfl, W, fun H9 v c f9 t9 tv dr => ?_⟩
      have fz : Fr [a] (upd H5 c0 (.tup [.str "flag", .str y])) H9 := Fr.drop2 (f7.trans f8) f9 hfr
      have := dr.okC.2
      exact tail H9 v c ((f6.mono (by simp)).trans fz) (G6.step fz t9) tv dr (by omega)
    · refine tail _ (.ref c0) (.flag y) (f6.mono (by simp)) G6 (by rw [Cn.data]; exact TD.mk2 upd_same (.str _) (.str _)) ⟨hy, by simp [lfN], by simp [ngC], by simp [jsC]⟩ (by rw [nd]; omega)
end
end K18

/-! G12: trees, all -/
namespace K18
open PySem PySem.Spec L2
open PyProof.Rows hiding St

section
variable {wd : World} {K : PySem.W.Frag} {mg : Str → Option Value} {base : Heap} {w : Rw}
theorem wi_len {d : Nat} (vs : List V) (H : Hp) (Q : VK) (E : XK) (h : spWi d vs H Q E) : vs.length = 4 := by
  obtain ⟨a, s, ln, rm, nms, rv, rfl, _⟩ := h
  rfl
theorem tr_len {d : Nat} (vs : List V) (H : Hp) (Q : VK) (E : XK) (h : spTr d vs H Q E) : vs.length = 4 := by
  obtain ⟨a, s, ln, rm, nms, rv, rfl, _⟩ := h
  rfl
theorem ok_wild1 (T : Txt K mg) {d k : Nat} {spT : Sp} (hT : ∀ d', d = d' + 1 → spT = spTr d') (GT : CalS R0 wd K mg base k "_law_tree" spT) (hk : 23 ≤ k) : CalS R0 wd K mg base (k + 1) "_law_wild" (spWi d) := by
  refine cal_s T.d_l_wild T.g_l_wild sc_l_wild (fun _ _ _ _ _ _ us hl => match us, hl with | [_, _, _, _], _ => rfl) wi_len (fun cdv A outer s H vs Q E hr h => ⟨t_l_wild K E spT, ?_, pure_wild hT vs H Q E h⟩)
  exact (pss_cons (ps_set (i := 4) sc_l_wild.nd rfl (Or.inl rfl) (pc (ok_draw T) hr (by omega) passE rfl (pa_cons (pv 0) (pa_cons pe_int pa_nil))))
      (pss_cons (ps_set (i := 5) sc_l_wild.nd rfl (Or.inl rfl) (pe_ix ix_list (pv 1) (pc (ok_draw T) hr (by omega) passE rfl (pa_cons (pv 0) (pa_cons (pe_callB call_len_seq rfl T.f_len (by decide +kernel) (pa_cons (pv 1) pa_nil)) pa_nil))) (fun _ _ => rfl)))
      (pss_cons (ps_set (i := 6) sc_l_wild.nd rfl (Or.inl rfl) (pe_ix ix_list (pe_lst (pa_cons pe_non (pa_cons (pv 5) pa_nil))) (pc (ok_draw T) hr (by omega) passE rfl (pa_cons (pv 0) (pa_cons pe_int pa_nil))) (fun _ _ => rfl)))
      (pss_cons (ps_set (i := 7) sc_l_wild.nd rfl (Or.inl rfl) (pe_cmpR op_eq (pc (ok_draw T) hr (by omega) passE rfl (pa_cons (pv 0) (pa_cons pe_int pa_nil))) pe_int (nomark _)))
      (pss_cons (ps_if (PW.pt (pw_or (pt_cmpR op_eq (pv 3) pe_int (nomark _)) (pw_or1 (pt_cmpR op_lt (pv 4) pe_int (nomark _))))) (pss_cons (ps_set (i := 8) sc_l_wild.nd rfl (Or.inl rfl) (pe_ix ix_list (pe_lst (pa_cons pe_non (pa_cons pe_int (pa_cons pe_int (pa_cons pe_int (pa_cons pe_int (pa_cons (pc (ok_draw T) hr (by omega) passE rfl (pa_cons (pv 0) (pa_cons pe_int pa_nil))) pa_nil))))))) (pc (ok_draw T) hr (by omega) passE rfl (pa_cons (pv 0) (pa_cons pe_int pa_nil))) (fun _ _ => rfl)))
      (pss_cons (ps_set (i := 9) sc_l_wild.nd rfl (Or.inl rfl) (pe_lst (pa_cons (pe_tup (pa_cons pe_str (pa_cons (pv 5) pa_nil))) (pa_cons (pe_tup (pa_cons pe_str (pa_cons (pv 5) (pa_cons (pv 7) pa_nil)))) (pa_cons (pe_tup (pa_cons pe_str (pa_cons (pv 5) (pa_cons (pv 7) pa_nil)))) (pa_cons (pe_tup (pa_cons pe_str (pa_cons (pv 6) pa_nil))) (pa_cons (pe_tup (pa_cons pe_str (pa_cons (pv 6) pa_nil))) pa_nil)))))))
      (pss_one (ps_ret (pe_ix ix_list (pe_op op_cat (pv 9) (pe_lst (pa_cons (pe_tup (pa_cons pe_str (pa_cons (pv 8) pa_nil))) pa_nil))) (pe_op op_mod (pe_callTy call_int1 rfl T.f_int (by decide +kernel) (pa_cons (pv 4) pa_nil)) pe_int) (fun _ _ => rfl)))))) pss_nil)
      (pss_cons (ps_if (pt_cmpR op_lt (pv 4) pe_int (nomark _)) (pss_one (ps_ret (pe_tup (pa_cons pe_str (pa_cons (pc GT hr (by omega) passE rfl (pa_cons (pv 0) (pa_cons (pv 1) (pa_cons (pv 2) (pa_cons (pe_op op_sub (pv 3) pe_int) pa_nil))))) pa_nil))))) pss_nil)
      (pss_cons (ps_if (pt_cmpR op_eq (pv 4) pe_int (nomark _)) (pss_one (ps_ret (pe_tup (pa_cons pe_str (pa_cons (pv 6) (pa_cons (pc GT hr (by omega) passE rfl (pa_cons (pv 0) (pa_cons (pv 1) (pa_cons (pv 2) (pa_cons (pe_op op_sub (pv 3) pe_int) pa_nil))))) pa_nil)))))) pss_nil)
      (pss_cons (ps_if (pt_cmpR op_eq (pv 4) pe_int (nomark _)) (pss_cons (ps_set (i := 10) sc_l_wild.nd rfl (Or.inl rfl) (pc GT hr (by omega) passE rfl (pa_cons (pv 0) (pa_cons (pv 1) (pa_cons (pv 2) (pa_cons (pe_op op_sub (pv 3) pe_int) pa_nil))))))
      (pss_one (ps_ret (pe_tup (pa_cons pe_str (pa_cons (pv 10) (pa_cons (pc GT hr (by omega) passE rfl (pa_cons (pv 0) (pa_cons (pv 1) (pa_cons (pv 2) (pa_cons (pe_op op_sub (pv 3) pe_int) pa_nil))))) pa_nil))))))) pss_nil)
      (pss_cons (ps_set (i := 11) sc_l_wild.nd rfl (Or.inl rfl) (pe_tup (pa_cons pe_str (pa_cons (pv 5) pa_nil))))
      (pss_cons (ps_if (pt_cmpR op_gt (pe_ix ix_list (pv 2) pe_int (fun _ _ => rfl)) pe_int (nomark _)) (pss_one (ps_set (i := 11) sc_l_wild.nd rfl (Or.inl rfl) (pc (ok_gcond T) hr (by omega) passE rfl (pa_cons (pv 0) (pa_cons (pe_lst (pa_cons (pe_lst (pa_cons pe_int (pa_cons pe_int (pa_cons pe_int (pa_cons pe_int (pa_cons pe_int (pa_cons pe_int pa_nil))))))) (pa_cons (pv 1) (pa_cons (pv 1) (pa_cons (pv 1) pa_nil))))) (pa_cons (pv 1) pa_nil)))))) pss_nil)
      (pss_cons (ps_asg (pe_op op_sub (pe_ix ix_list (pv 2) pe_int (fun _ _ => rfl)) (pc (ok_lparts T 20) hr (by omega) passE rfl (pa_cons (pv 11) pa_nil))) (pg_sub (pv 2) pe_int set_list))
      (pss_cons (ps_set (i := 10) sc_l_wild.nd rfl (Or.inl rfl) (pc GT hr (by omega) passE rfl (pa_cons (pv 0) (pa_cons (pv 1) (pa_cons (pv 2) (pa_cons (pe_op op_sub (pv 3) pe_int) pa_nil))))))
      (pss_cons (ps_if (pt_cmpR op_lt (pv 4) pe_int (nomark _)) (pss_one (ps_ret (pe_tup (pa_cons pe_str (pa_cons (pv 6) (pa_cons (pv 11) (pa_cons (pv 10) pa_nil))))))) pss_nil)
      (pss_cons (ps_set (i := 12) sc_l_wild.nd rfl (Or.inl rfl) (pe_tup pa_nil))
      (pss_cons (ps_if (pt_cmpR op_lt (pv 4) pe_int (nomark _)) (pss_one (ps_set (i := 12) sc_l_wild.nd rfl (Or.inl rfl) (pc GT hr (by omega) passE rfl (pa_cons (pv 0) (pa_cons (pv 1) (pa_cons (pv 2) (pa_cons (pe_op op_sub (pv 3) pe_int) pa_nil))))))) pss_nil)
      (pss_one (ps_ret (pe_tup (pa_cons pe_str (pa_cons (pv 11) (pa_cons (pv 10) (pa_cons (pv 12) pa_nil))))))))))))))))))))))
theorem ok_tree1 (T : Txt K mg) {d k : Nat} (GW : CalS R0 wd K mg base k "_law_wild" (spWi d)) (hk : 2 ≤ k) : CalS R0 wd K mg base (k + 1) "_law_tree" (spTr d) := by
  refine cal_s T.d_l_tree T.g_l_tree sc_l_tree (fun _ _ _ _ _ _ us hl => match us, hl with | [_, _, _, _], _ => rfl) tr_len (fun cdv A outer s H vs Q E hr h => ⟨t_l_tree K E (spWi d), ?_, pure_tree vs H Q E h⟩)
  exact (pss_cons (ps_set (i := 4) sc_l_tree.nd rfl (Or.inl rfl) (pe_lst pa_nil))
      (pss_cons (ps_for ownE rfl (pi_range1 rfl T.f_range (pa_cons (pe_ix ix_list (pe_lst (pa_cons pe_int (pa_cons pe_int (pa_cons pe_int (pa_cons pe_int (pa_cons pe_int (pa_cons pe_int pa_nil))))))) (pc (ok_draw T) hr (by omega) passE rfl (pa_cons (pv 0) (pa_cons pe_int pa_nil))) (fun _ _ => rfl)) pa_nil)) (pg_name (i := 5) sc_l_tree.nd rfl (Or.inl rfl)) (pss_one (ps_if (pt_cmpR op_gt (pe_ix ix_list (pv 2) pe_int (fun _ _ => rfl)) pe_int (nomark _)) (pss_cons (ps_asg (pe_op op_sub (pe_ix ix_list (pv 2) pe_int (fun _ _ => rfl)) pe_int) (pg_sub (pv 2) pe_int set_list))
      (pss_one (ps_expr (pe_bm PySem.F.plainAttrs_list PySem.F.slot_list_append PySem.F.type_list_append mt_append (pv 4) (pa_cons (pc GW hr (by omega) passE rfl (pa_cons (pv 0) (pa_cons (pv 1) (pa_cons (pv 2) (pa_cons (pv 3) pa_nil))))) pa_nil))))) pss_nil)))
      (pss_one (ps_ret (pe_callTy call_tuple_of rfl T.f_tuple (by decide +kernel) (pa_cons (pv 4) pa_nil))))))
theorem ok_tree (T : Txt K mg) : ∀ d, CalS R0 wd K mg base (2 * d + 25) "_law_tree" (spTr d) := by
  intro d
  induction d with
  | zero => exact ok_tree1 T (ok_wild1 T (d := 0) (k := 23) (spT := spNo) (fun _ z => by cases z) (cal_no (ps := ["_law_tape_here", "_law_names_here", "_law_room", "_law_depth"]) T.d_l_tree T.g_l_tree (fun _ _ _ _ _ _ us hl => match us, hl with | [_, _, _, _], _ => rfl) _) (by omega)) (by omega)
  | succ d ih => exact ok_tree1 T (ok_wild1 T (d := d + 1) (fun d' z => by cases z; rfl) ih (by omega)) (by omega)
end
end K18

/-! W0: rows of words: brackets, signs, keywords counted. -/
namespace K18
open PySem PySem.Spec L2
open PyProof.Rows hiding St
def hS (x : Str) : Int := if x = "(" then 1 else if x = ")" then -1 else 0
def oS (x : Str) : Nat := if x = "!" ∨ x = "&&" ∨ x = "||" then 1 else 0
def kS (x : Str) : Nat := if x = "if" ∨ x = "while" then 1 else 0
def Hh (l : List Str) : Int := (l.map hS).sum
def Oo (l : List Str) : Nat := (l.map oS).sum
def Kk (l : List Str) : Nat := (l.map kS).sum
def Ww (l : List Str) : Nat := (l.map wt).sum
theorem Hh_app (a b : List Str) : Hh (a ++ b) = Hh a + Hh b := by simp [Hh]
theorem Oo_app (a b : List Str) : Oo (a ++ b) = Oo a + Oo b := by simp [Oo]
theorem Kk_app (a b : List Str) : Kk (a ++ b) = Kk a + Kk b := by simp [Kk]
theorem Ww_app (a b : List Str) : Ww (a ++ b) = Ww a + Ww b := by simp [Ww]
theorem Hh_cons (x : Str) (b : List Str) : Hh (x :: b) = hS x + Hh b := by simp [Hh]
theorem Oo_cons (x : Str) (b : List Str) : Oo (x :: b) = oS x + Oo b := by simp [Oo]
theorem Kk_cons (x : Str) (b : List Str) : Kk (x :: b) = kS x + Kk b := by simp [Kk]
theorem Ww_cons (x : Str) (b : List Str) : Ww (x :: b) = wt x + Ww b := by simp [Ww]
/-- a word that may begin a condition -/
def fstW (y : Str) : Prop := y ≠ ")" ∧ y ≠ "&&" ∧ y ≠ "||"
/-- words of a condition -/
structure CT (l : List Str) (o w : Nat) : Prop where
  k : Kk l = 0
  h : Hh l = 0
  p : ∀ n, 0 ≤ Hh (l.take n)
  o : Oo l ≤ o
  w : Ww l ≤ w
  ok : ∀ x ∈ l, Wok (cd x)
  hd : ∃ x r, l = x :: r ∧ fstW x
/-- words of statements -/
structure Tx (l : List Str) (w : Nat) : Prop where
  h : Hh l = 0
  p : ∀ n, 0 ≤ Hh (l.take n)
  k : ∀ n x, l[n]? = some x → kS x = 1 → Hh (l.take n) = 0 ∧ l[n + 1]? = some "(" ∧ ∃ y, l[n + 2]? = some y ∧ fstW y
  o : ∀ i j, i ≤ j → Kk (l.take i) = Kk (l.take j) → Oo (l.take j) ≤ Oo (l.take i) + 14
  o0 : ∀ j, Kk (l.take j) = 0 → Oo (l.take j) = 0
  w : Ww l ≤ w
  ok : ∀ x ∈ l, Wok (cd x)
theorem take_app (a b : List Str) (n : Nat) : (a ++ b).take n = a.take n ++ b.take (n - a.length) := List.take_append ..
theorem Tx.nil : Tx [] 0 := ⟨rfl, fun n => by simp [Hh], fun n x h => by simp at h, fun i j _ _ => by simp [Oo], fun j _ => by simp [Oo], Nat.le_refl _, fun x h => by simp at h⟩
theorem Kk_mono (l : List Str) {i j : Nat} (h : i ≤ j) : Kk (l.take i) ≤ Kk (l.take j) := by
  have e : l.take j = l.take i ++ (l.take j).drop i := by
    have := List.take_append_drop i (l.take j)
    rw [List.take_take, Nat.min_eq_left h] at this
    exact this.symm
  rw [e, Kk_app]
  omega
theorem Tx.app {a b : List Str} {u v : Nat} (A : Tx a u) (B : Tx b v) : Tx (a ++ b) (u + v) := by
  have len : ∀ n, a.length ≤ n → a.take n = a := fun n h => List.take_of_length_le h
  refine ⟨by rw [Hh_app, A.h, B.h]; rfl, fun n => ?_, fun n x hx hk => ?_, fun i j hij hk => ?_, fun j hj => ?_, by rw [Ww_app]; have := A.w; have := B.w; omega, fun x hx => (List.mem_append.mp hx).elim (A.ok x) (B.ok x)⟩
  · rw [take_app, Hh_app]
    have := A.p n
    have := B.p (n - a.length)
    omega
  · by_cases c : n < a.length
    · rw [List.getElem?_append_left c] at hx
      obtain ⟨k1, k2, y, k3, k4⟩ := A.k n x hx hk
      have c1 : n + 1 < a.length := (List.getElem?_eq_some_iff.mp k2).1
      have c2 : n + 2 < a.length := (List.getElem?_eq_some_iff.mp k3).1
      refine ⟨?_, by rw [List.getElem?_append_left c1]; exact k2, y, by rw [List.getElem?_append_left c2]; exact k3, k4⟩
      rw [List.take_append_of_le_length (by omega)]
      exact k1
    · rw [List.getElem?_append_right (by omega)] at hx
      obtain ⟨k1, k2, y, k3, k4⟩ := B.k (n - a.length) x hx hk
      refine ⟨?_, ?_, y, ?_, k4⟩
      · rw [take_app, Hh_app, len n (by omega), A.h, k1]
        rfl
      · rw [List.getElem?_append_right (by omega), show n + 1 - a.length = n - a.length + 1 by omega]
        exact k2
      · rw [List.getElem?_append_right (by omega), show n + 2 - a.length = n - a.length + 2 by omega]
        exact k3
  · rw [take_app, take_app, Kk_app, Kk_app] at hk
    rw [take_app, take_app, Oo_app, Oo_app]
    have m1 := Kk_mono a hij
    have m2 := Kk_mono b (show i - a.length ≤ j - a.length by omega)
    by_cases c : i < a.length
    · have z : i - a.length = 0 := by omega
      rw [z] at hk ⊢
      have e0 : Kk (b.take 0) = 0 := by simp [Kk]
      have b0 := B.o0 (j - a.length) (by omega)
      have a0 := A.o i j hij (by omega)
      omega
    · rw [len i (by omega), len j (by omega)] at *
      have b0 := B.o (i - a.length) (j - a.length) (by omega) (by omega)
      omega
  · rw [take_app, Kk_app] at hj
    rw [take_app, Oo_app, A.o0 j (by omega), B.o0 (j - a.length) (by omega)]
end K18

/-! W1: rows of words: pieces. -/
namespace K18
open PySem PySem.Spec L2
open PyProof.Rows hiding St
/-- a row without keyword and sign, whose brackets are in order -/
theorem Tx.plain {l : List Str} {w : Nat} (h : Hh l = 0) (p : ∀ n, 0 ≤ Hh (l.take n)) (k : ∀ x ∈ l, kS x = 0 ∧ oS x = 0) (hw : Ww l ≤ w) (ok : ∀ x ∈ l, Wok (cd x)) : Tx l w := by
  have o : ∀ n, Oo (l.take n) = 0 := fun n => by
    have : ∀ m : List Str, (∀ x ∈ m, kS x = 0 ∧ oS x = 0) → Oo m = 0 := by
      intro m
      induction m with
      | nil => intro _; rfl
      | cons y r ih =>
        intro hm
        rw [Oo_cons, (hm y (List.mem_cons_self ..)).2, ih fun x hx => hm x (List.mem_cons_of_mem _ hx)]
    exact this _ fun x hx => k x (List.mem_of_mem_take hx)
  exact ⟨h, p, fun n x hx hk => (by rw [(k x (List.mem_of_getElem? hx)).1] at hk; cases hk), fun i j _ _ => by rw [o, o]; omega, fun j _ => o j, hw, ok⟩
theorem Tx.mono {l : List Str} {u v : Nat} (A : Tx l u) (h : u ≤ v) : Tx l v := ⟨A.h, A.p, A.k, A.o, A.o0, Nat.le_trans A.w h, A.ok⟩
/-- kw ( condition ) -/
theorem Tx.cond {kw : Str} {l : List Str} {o w : Nat} (hk : kw = "if" ∨ kw = "while") (C : CT l o w) (ho : o ≤ 14) : Tx (kw :: "(" :: (l ++ [(")" : Str)])) (w + 1) := by
  have k1 : kS kw = 1 := if_pos hk
  have h1 : hS kw = 0 := by rcases hk with rfl | rfl <;> decide +kernel
  have o1 : oS kw = 0 := by rcases hk with rfl | rfl <;> decide +kernel
  have w1 : wt kw = 1 := by rcases hk with rfl | rfl <;> decide +kernel
  have b1 : hS "(" = 1 ∧ oS "(" = 0 ∧ kS "(" = 0 ∧ wt "(" = 0 := by decide +kernel
  have b2 : hS ")" = -1 ∧ oS ")" = 0 ∧ kS ")" = 0 ∧ wt ")" = 0 := by decide +kernel
  have take_le : ∀ (m : List Str) (n : Nat), Oo (m.take n) ≤ Oo m := fun m n => by
    have := congrArg Oo (List.take_append_drop n m)
    rw [Oo_app] at this
    omega
  have kz : ∀ m : List Str, Kk m = 0 → ∀ x ∈ m, kS x = 0 := by
    intro m
    induction m with
    | nil => intro _ x hx; simp at hx
    | cons y r ih =>
      intro h x hx
      rw [Kk_cons] at h
      rcases List.mem_cons.mp hx with rfl | hx
      · omega
      · exact ih (by omega) x hx
  have hO : Oo (kw :: "(" :: (l ++ [(")" : Str)])) ≤ 14 := by
    rw [Oo_cons, Oo_cons, Oo_app, Oo_cons, o1, b1.2.1, b2.2.1]
    have := C.o
    simp only [Oo, List.map_nil, List.sum_nil] at *
    omega
  refine ⟨?_, fun n => ?_, fun n x hx hk1 => ?_, fun i j _ _ => ?_, fun j hj => ?_, ?_, fun x hx => ?_⟩
  · rw [Hh_cons, Hh_cons, Hh_app, Hh_cons, h1, b1.1, b2.1, C.h]
    rfl
  · match n with
    | 0 => exact Int.le_refl _
    | 1 =>
      show 0 ≤ Hh [kw]
      rw [Hh_cons, h1]
      exact Int.le_refl _
    | n + 2 =>
      rw [List.take_succ_cons, List.take_succ_cons, take_app, Hh_cons, Hh_cons, Hh_app, h1, b1.1]
      have := C.p n
      have z : Hh (([(")" : Str)] : List Str).take (n - l.length)) = 0 ∨ Hh (([(")" : Str)] : List Str).take (n - l.length)) = -1 := by
        cases n - l.length with
        | zero => left; rfl
        | succ m => right; rw [List.take_succ_cons, List.take_nil, Hh_cons, b2.1]; rfl
      omega
  · match n, hx with
    | 0, hx =>
      obtain ⟨y, r, e, hy⟩ := C.hd
      refine ⟨rfl, rfl, y, ?_, hy⟩
      rw [e]
      rfl
    | 1, hx =>
      cases hx
      rw [b1.2.2.1] at hk1
      cases hk1
    | n + 2, hx =>
      have hx : (l ++ [(")" : Str)])[n]? = some x := hx
      rcases List.mem_append.mp (List.mem_of_getElem? hx) with m | m
      · rw [kz l C.k x m] at hk1
        cases hk1
      · rw [List.mem_singleton.mp m, b2.2.2.1] at hk1
        cases hk1
  · exact Nat.le_trans (take_le _ _) (by omega)
  · cases j with
    | zero => rfl
    | succ j =>
      rw [List.take_succ_cons, Kk_cons, k1] at hj
      omega
  · rw [Ww_cons, Ww_cons, Ww_app, Ww_cons, w1, b1.2.2.2, b2.2.2.2]
    have := C.w
    simp only [Ww, List.map_nil, List.sum_nil] at *
    omega
  · rcases List.mem_cons.mp hx with rfl | hx
    · rcases hk with rfl | rfl
      · exact wok_of ⟨105, by decide +kernel, by decide +kernel⟩ (by unfold AW; decide +kernel) (by decide +kernel)
      · exact wok_of ⟨119, by decide +kernel, by decide +kernel⟩ (by unfold AW; decide +kernel) (by decide +kernel)
    · rcases List.mem_cons.mp hx with rfl | hx
      · exact .sym 40 (by decide +kernel)
      · rcases List.mem_append.mp hx with hx | hx
        · exact C.ok x hx
        · rw [List.mem_singleton.mp hx]
          exact .sym 41 (by decide +kernel)
end K18

/-! W2: rows of words of conditions, under way. -/
namespace K18
open PySem PySem.Spec L2
open PyProof.Rows hiding St
/-- words of a condition under way, g brackets open -/
structure CP (l : List Str) (g : Int) (o w : Nat) : Prop where
  k : Kk l = 0
  h : Hh l = g
  p : ∀ n, 0 ≤ Hh (l.take n)
  o : Oo l ≤ o
  w : Ww l ≤ w
  ok : ∀ x ∈ l, Wok (cd x)
  hd : ∀ x r, l = x :: r → fstW x
theorem CP.nil : CP [] 0 0 0 := ⟨rfl, rfl, fun n => by simp [Hh], Nat.le_refl _, Nat.le_refl _, fun x h => by simp at h, fun x r h => by cases h⟩
theorem CT.cp {l : List Str} {o w : Nat} (C : CT l o w) : CP l 0 o w := ⟨C.k, C.h, C.p, C.o, C.w, C.ok, fun x r e => by
  obtain ⟨y, r', e', hy⟩ := C.hd
  rw [e] at e'
  cases e'
  exact hy⟩
theorem CP.ct {l : List Str} {o w : Nat} (C : CP l 0 o w) (h : l ≠ []) : CT l o w := ⟨C.k, C.h, C.p, C.o, C.w, C.ok, by
  cases l with
  | nil => exact absurd rfl h
  | cons x r => exact ⟨x, r, rfl, C.hd x r rfl⟩⟩
theorem CP.app {a b : List Str} {g g2 : Int} {o w o2 w2 : Nat} (A : CP a g o w) (hk : Kk b = 0) (hh : Hh b = g2) (hp : ∀ n, 0 ≤ g + Hh (b.take n)) (ho : Oo b ≤ o2) (hw : Ww b ≤ w2) (ok : ∀ x ∈ b, Wok (cd x)) (hd : a = [] → ∀ x r, b = x :: r → fstW x) : CP (a ++ b) (g + g2) (o + o2) (w + w2) := by
  refine ⟨by rw [Kk_app, A.k, hk], by rw [Hh_app, A.h, hh], fun n => ?_, by rw [Oo_app]; have := A.o; omega, by rw [Ww_app]; have := A.w; omega, fun x hx => (List.mem_append.mp hx).elim (A.ok x) (ok x), fun x r e => ?_⟩
  · rw [take_app, Hh_app]
    by_cases c : n ≤ a.length
    · have := A.p n
      rw [show n - a.length = 0 by omega]
      have z : Hh (b.take 0) = 0 := by simp [Hh]
      omega
    · rw [List.take_of_length_le (by omega), A.h]
      exact hp _
  · cases a with
    | nil => exact hd rfl x r e
    | cons y t =>
      have e1 := (List.cons.inj (show y :: (t ++ b) = x :: r from e)).1
      rw [← e1]
      exact A.hd y t rfl
theorem CP.app0 {a b : List Str} {g : Int} {o w o2 w2 : Nat} (A : CP a g o w) (hg : 0 ≤ g) (B : CP b 0 o2 w2) : CP (a ++ b) g (o + o2) (w + w2) := by
  have z := A.app (g2 := 0) B.k B.h (fun n => by have := B.p n; omega) B.o B.w B.ok fun _ => B.hd
  rw [Int.add_zero] at z
  exact z
end K18

/-! W3: bodies -/
namespace K18
open PySem PySem.Spec L2
open PyProof.Rows hiding St
abbrev N_l_bodies : List Str := ["_law_statement"]
theorem sc_l_bodies : FnScope N_l_bodies ["_law_statement"] (defScope s_l_bodies) := ⟨rfl, rfl, rfl, by decide +kernel, rfl, by decide +kernel, by decide +kernel⟩
def t_l_bodies (K : PySem.W.Frag) (E : XK)  : TS :=
  (tSeq (tIfS (tTest (tOp rEq (tOp (rIxT K) (tVar 0) (tC (.int 0))) (tC (.str "if")))) (tRet (tLst (tCons (tOp (rIxT K) (tVar 0) (tC (.int 2))) (tCons (tOp (rIxT K) (tVar 0) (tC (.int 3))) tNil)))) tNext)
  (tSeq (tIfS (tTest (tOp rEq (tOp (rIxT K) (tVar 0) (tC (.int 0))) (tC (.str "try")))) (tRet (tLst (tCons (tOp (rIxT K) (tVar 0) (tC (.int 1))) (tCons (tOp (rIxT K) (tVar 0) (tC (.int 2))) tNil)))) tNext)
  (tSeq (tIfS (tOr (tTest (tOp rEq (tOp (rIxT K) (tVar 0) (tC (.int 0))) (tC (.str "while")))) (tOr (tTest (tOp rEq (tOp (rIxT K) (tVar 0) (tC (.int 0))) (tC (.str "for")))) (tTest (tOp rEq (tOp (rIxT K) (tVar 0) (tC (.int 0))) (tC (.str "block")))))) (tRet (tLst (tCons (tOp (rIxT K) (tVar 0) (tOp rSubI (tCB (rLenQ K) (tCons (tVar 0) tNil)) (tC (.int 1)))) tNil))) tNext)
  (tRet (tLst tNil)))))
def spLBds : Sp := fun vs H Q _ => ∃ (v : V) (s : Sm), vs = [v] ∧ TD H v s.data ∧ fine s ∧ ∀ H' l xs, Fr [] H H' → H' l = some (.lst xs) → xs.length = (bds s).length → Q (.ref l) H'
section
variable {wd : World} {K : PySem.W.Frag} {mg : Str → Option Value} {base : Heap} {w : Rw}
theorem x_eq3 {K : PySem.W.Frag} {H : Hp} {σ : L2.St} {D : Ends} {tA tB : TS} {x x' x'' y : Str} {xs : List V} {b : Addr} (ho : σ[0]? = some (some (.ref b))) (hb : H b = some (.tup (.str y :: xs))) (h1 : y = x ∨ y = x' ∨ y = x'' → tA D σ H) (h2 : ¬ (y = x ∨ y = x' ∨ y = x'') → tB D σ H) :
    tIfS (tOr (tTest (tOp rEq (tOp (rIxT K) (tVar 0) (tC (.int 0))) (tC (.str x)))) (tOr (tTest (tOp rEq (tOp (rIxT K) (tVar 0) (tC (.int 0))) (tC (.str x')))) (tTest (tOp rEq (tOp (rIxT K) (tVar 0) (tC (.int 0))) (tC (.str x'')))))) tA tB D σ H := by
  refine ⟨_, ho, b, _, 0, _, rfl, rfl, sqT hb, at0, rfl, _, rfl, ?_⟩
  by_cases c : y = x
  · exact iteTb (str_eqT c) (iteT (h1 (.inl c)))
  · refine iteFb (str_eqF c) ⟨_, ho, b, _, 0, _, rfl, rfl, sqT hb, at0, rfl, _, rfl, ?_⟩
    by_cases d : y = x'
    · exact iteTb (str_eqT d) (iteT (h1 (.inr (.inl d))))
    · refine iteFb (str_eqF d) ⟨_, ho, b, _, 0, _, rfl, rfl, sqT hb, at0, rfl, _, rfl, ?_⟩
      by_cases e : y = x''
      · exact iteTb (str_eqT e) (h1 (.inr (.inr e)))
      · exact iteFb (str_eqF e) (h2 fun z => z.elim c fun z => z.elim d e)
theorem pure_lbds (vs : List V) (H : Hp) (Q : VK) (E : XK) (h : spLBds vs H Q E) : t_l_bodies K E { nx := fun _ H' => Q .non H', rt := Q } (start N_l_bodies vs) H := by
  obtain ⟨v, s, rfl, hv, hf, q⟩ := h
  obtain ⟨b, xs, rfl, hb, hx⟩ := sm_open hv
  have emp : bds s = [] → ¬ s.k = "if" → ¬ s.k = "try" → ¬ (s.k = "while" ∨ s.k = "for" ∨ s.k = "block") → t_l_bodies K E { nx := fun _ H' => Q .non H', rt := Q } (start N_l_bodies [.ref b]) H := fun e h1 h2 h3 => by
    refine x_eq rfl hb (fun c => absurd c h1) fun _ => ?_
    refine x_eq rfl hb (fun c => absurd c h2) fun _ => ?_
    refine x_eq3 rfl hb (fun c => absurd c h3) fun _ => ?_
    exact ⟨Nat.zero_le _, fun p hp => q _ p [] (Fr.new hp) upd_same (by rw [e]; rfl)⟩
  cases s with
  | jmp w l =>
    have h0 : ∀ x : Str, x ≠ "break" → x ≠ "continue" → ¬ Sm.k (.jmp w l) = x := fun x h1 h2 z => by
      rcases hf w l rfl with e | e
      · exact h1 (z.symm.trans e)
      · exact h2 (z.symm.trans e)
    exact emp rfl (h0 _ (by decide +kernel) (by decide +kernel)) (h0 _ (by decide +kernel) (by decide +kernel)) fun z => z.elim (h0 _ (by decide +kernel) (by decide +kernel)) fun z => z.elim (h0 _ (by decide +kernel) (by decide +kernel)) (h0 _ (by decide +kernel) (by decide +kernel))
  | ite c f s =>
    obtain ⟨u1, r1, rfl, t1, hx⟩ := hx.cons_inv
    obtain ⟨u2, r2, rfl, t2, hx⟩ := hx.cons_inv
    obtain ⟨u3, r3, rfl, t3, hx⟩ := hx.cons_inv
    refine x_eq rfl hb (fun _ => ?_) fun c => absurd rfl c
    exact ⟨_, rfl, b, _, 2, _, rfl, rfl, sqT hb, at2, _, rfl, b, _, 3, _, rfl, rfl, sqT hb, at3, two_le, fun p hp => q _ p _ (Fr.new hp) upd_same rfl⟩
  | tri f s =>
    obtain ⟨u1, r1, rfl, t1, hx⟩ := hx.cons_inv
    obtain ⟨u2, r2, rfl, t2, hx⟩ := hx.cons_inv
    refine x_eq rfl hb (fun c => absurd c (by dsimp only [Sm.k]; decide +kernel)) fun _ => ?_
    refine x_eq rfl hb (fun _ => ?_) fun c => absurd rfl c
    exact ⟨_, rfl, b, _, 1, _, rfl, rfl, sqT hb, at1, _, rfl, b, _, 2, _, rfl, rfl, sqT hb, at2, two_le, fun p hp => q _ p _ (Fr.new hp) upd_same rfl⟩
  | call _ => exact emp rfl (by dsimp only [Sm.k]; decide +kernel) (by dsimp only [Sm.k]; decide +kernel) (by dsimp only [Sm.k]; decide +kernel)
  | dcl _ _ => exact emp rfl (by dsimp only [Sm.k]; decide +kernel) (by dsimp only [Sm.k]; decide +kernel) (by dsimp only [Sm.k]; decide +kernel)
  | set _ _ => exact emp rfl (by dsimp only [Sm.k]; decide +kernel) (by dsimp only [Sm.k]; decide +kernel) (by dsimp only [Sm.k]; decide +kernel)
  | ret _ => exact emp rfl (by dsimp only [Sm.k]; decide +kernel) (by dsimp only [Sm.k]; decide +kernel) (by dsimp only [Sm.k]; decide +kernel)
  | whl l c f =>
    obtain ⟨u1, r1, rfl, t1, hx⟩ := hx.cons_inv
    obtain ⟨u2, r2, rfl, t2, hx⟩ := hx.cons_inv
    obtain ⟨u3, r3, rfl, t3, hx⟩ := hx.cons_inv
    have er := hx.nil_inv
    subst er
    refine x_eq rfl hb (fun c => absurd c (by dsimp only [Sm.k]; decide +kernel)) fun _ => ?_
    refine x_eq rfl hb (fun c => absurd c (by dsimp only [Sm.k]; decide +kernel)) fun _ => ?_
    refine x_eq3 rfl hb (fun _ => ?_) fun c => absurd (by dsimp only [Sm.k]; decide +kernel) c
    exact ⟨_, rfl, _, rfl, b, _, rfl, .inr (sqT hb), _, _, rfl, rfl, b, _, 3, _, rfl, rfl, sqT hb, at3, one_le, fun p hp => q _ p _ (Fr.new hp) upd_same rfl⟩
  | frl l f =>
    obtain ⟨u1, r1, rfl, t1, hx⟩ := hx.cons_inv
    obtain ⟨u2, r2, rfl, t2, hx⟩ := hx.cons_inv
    have er := hx.nil_inv
    subst er
    refine x_eq rfl hb (fun c => absurd c (by dsimp only [Sm.k]; decide +kernel)) fun _ => ?_
    refine x_eq rfl hb (fun c => absurd c (by dsimp only [Sm.k]; decide +kernel)) fun _ => ?_
    refine x_eq3 rfl hb (fun _ => ?_) fun c => absurd (by dsimp only [Sm.k]; decide +kernel) c
    exact ⟨_, rfl, _, rfl, b, _, rfl, .inr (sqT hb), _, _, rfl, rfl, b, _, 2, _, rfl, rfl, sqT hb, at2, one_le, fun p hp => q _ p _ (Fr.new hp) upd_same rfl⟩
  | blk f =>
    obtain ⟨u1, r1, rfl, t1, hx⟩ := hx.cons_inv
    have er := hx.nil_inv
    subst er
    refine x_eq rfl hb (fun c => absurd c (by dsimp only [Sm.k]; decide +kernel)) fun _ => ?_
    refine x_eq rfl hb (fun c => absurd c (by dsimp only [Sm.k]; decide +kernel)) fun _ => ?_
    refine x_eq3 rfl hb (fun _ => ?_) fun c => absurd (by dsimp only [Sm.k]; decide +kernel) c
    exact ⟨_, rfl, _, rfl, b, _, rfl, .inr (sqT hb), _, _, rfl, rfl, b, _, 1, _, rfl, rfl, sqT hb, at1, one_le, fun p hp => q _ p _ (Fr.new hp) upd_same rfl⟩
theorem ok_lbds (T : Txt K mg) : CalS R0 wd K mg base 1 "_law_bodies" spLBds := by
  refine cal_s T.d_l_bodies T.g_l_bodies sc_l_bodies (fun _ _ _ _ _ _ us hl => match us, hl with | [_], _ => rfl) (fun vs H Q E h => ?_) (fun cdv A outer s H vs Q E hr h => ⟨t_l_bodies K E, ?_, pure_lbds vs H Q E h⟩)
  · obtain ⟨v, s, rfl, _⟩ := h
    rfl
  · exact (pss_cons (ps_if (pt_cmpR op_eq (pe_ix ix_tup (pv 0) pe_int (fun _ _ => rfl)) pe_str (nomark _)) (pss_one (ps_ret (pe_lst (pa_cons (pe_ix ix_tup (pv 0) pe_int (fun _ _ => rfl)) (pa_cons (pe_ix ix_tup (pv 0) pe_int (fun _ _ => rfl)) pa_nil))))) pss_nil)
      (pss_cons (ps_if (pt_cmpR op_eq (pe_ix ix_tup (pv 0) pe_int (fun _ _ => rfl)) pe_str (nomark _)) (pss_one (ps_ret (pe_lst (pa_cons (pe_ix ix_tup (pv 0) pe_int (fun _ _ => rfl)) (pa_cons (pe_ix ix_tup (pv 0) pe_int (fun _ _ => rfl)) pa_nil))))) pss_nil)
      (pss_cons (ps_if (PW.pt (pw_or (pt_cmpR op_eq (pe_ix ix_tup (pv 0) pe_int (fun _ _ => rfl)) pe_str (nomark _)) (pw_or (pt_cmpR op_eq (pe_ix ix_tup (pv 0) pe_int (fun _ _ => rfl)) pe_str (nomark _)) (pw_or1 (pt_cmpR op_eq (pe_ix ix_tup (pv 0) pe_int (fun _ _ => rfl)) pe_str (nomark _)))))) (pss_one (ps_ret (pe_lst (pa_cons (pe_ix ix_tup (pv 0) (pe_op op_sub (pe_callB call_len_seq rfl T.f_len (by decide +kernel) (pa_cons (pv 0) pa_nil)) pe_int) (fun _ _ => rfl)) pa_nil)))) pss_nil)
      (pss_one (ps_ret (pe_lst pa_nil))))))
end
end K18

/-! M3: what is read, seen from the words: heights of brackets, signs, depths. -/
namespace K18
open PySem PySem.Spec L2
open PyProof.Rows hiding St
def HP (ws : List Str) (n : Nat) : Int := Hh (ws.take n)
def OP (ws : List Str) (n : Nat) : Nat := Oo (ws.take n)
def KP (ws : List Str) (n : Nat) : Nat := Kk (ws.take n)
theorem sums_e : hS "" = 0 ∧ oS "" = 0 ∧ kS "" = 0 := by decide +kernel
theorem take_tk (ws : List Str) (n : Nat) : (n < ws.length ∧ ws.take (n + 1) = ws.take n ++ [tk ws n]) ∨ (¬ n < ws.length ∧ ws.take (n + 1) = ws.take n ∧ tk ws n = "") := by
  by_cases h : n < ws.length
  · left
    refine ⟨h, ?_⟩
    rw [List.take_add_one, tk_get h]
    rfl
  · right
    refine ⟨h, ?_, tk_end h⟩
    rw [List.take_of_length_le (by omega), List.take_of_length_le (by omega)]
theorem HP_succ (ws : List Str) (n : Nat) : HP ws (n + 1) = HP ws n + hS (tk ws n) := by
  unfold HP
  rcases take_tk ws n with ⟨_, e⟩ | ⟨_, e, e2⟩
  · rw [e, Hh_app]
    simp [Hh]
  · rw [e, e2, sums_e.1]
    omega
theorem OP_succ (ws : List Str) (n : Nat) : OP ws (n + 1) = OP ws n + oS (tk ws n) := by
  unfold OP
  rcases take_tk ws n with ⟨_, e⟩ | ⟨_, e, e2⟩
  · rw [e, Oo_app]
    simp [Oo]
  · rw [e, e2, sums_e.2.1]
    omega
theorem KP_succ (ws : List Str) (n : Nat) : KP ws (n + 1) = KP ws n + kS (tk ws n) := by
  unfold KP
  rcases take_tk ws n with ⟨_, e⟩ | ⟨_, e, e2⟩
  · rw [e, Kk_app]
    simp [Kk]
  · rw [e, e2, sums_e.2.2]
    omega
theorem HP_zero (ws : List Str) : HP ws 0 = 0 := rfl
/-- what a word counts for -/
theorem cnt (x : Str) (h : Int) (o k : Nat) (e : x = x) (d : hS x = h ∧ oS x = o ∧ kS x = k) {ws : List Str} {n : Nat} (z : tk ws n = x) : HP ws (n + 1) = HP ws n + h ∧ OP ws (n + 1) = OP ws n + o ∧ KP ws (n + 1) = KP ws n + k := by
  rw [HP_succ, OP_succ, KP_succ, z, d.1, d.2.1, d.2.2]
  exact ⟨rfl, rfl, rfl⟩
theorem nm_cnt {x : Str} (h : isNm x = true) : hS x = 0 ∧ oS x = 0 ∧ kS x = 0 := by
  have n : ∀ y : Str, isNm y = false → x ≠ y := fun y hy z => by rw [z, hy] at h; cases h
  have a1 := n "(" (by decide +kernel)
  have a2 := n ")" (by decide +kernel)
  have a3 := n "!" (by decide +kernel)
  have a4 := n "&&" (by decide +kernel)
  have a5 := n "||" (by decide +kernel)
  have a6 := n "if" (by decide +kernel)
  have a7 := n "while" (by decide +kernel)
  unfold hS oS kS
  rw [if_neg a1, if_neg a2, if_neg (by simp only [not_or]; exact ⟨a3, a4, a5⟩), if_neg (by simp only [not_or]; exact ⟨a6, a7⟩)]
  exact ⟨rfl, rfl, rfl⟩
theorem isN_nm {ws : List Str} {i : Nat} (h : isN ws i = true) : isNm (tk ws i) = true := by
  unfold isN at h
  exact (Bool.and_eq_true_iff.mp h).2
section
variable (ws : List Str)
/-- words that are read as a part of a condition -/
structure Seg (i j : Nat) : Prop where
  lt : i < j
  le : j ≤ ws.length
  h : HP ws j = HP ws i
  p : ∀ n, i ≤ n → n ≤ j → HP ws i ≤ HP ws n
  k : KP ws j = KP ws i
  adj : ∀ n, i ≤ n → n + 1 < j → tk ws n = ")" → tk ws (n + 1) = ")" ∨ tk ws (n + 1) = "&&" ∨ tk ws (n + 1) = "||"
theorem Seg.sep {i k j : Nat} {sep : Str} (A : Seg ws i k) (hs : sep = "&&" ∨ sep = "||") (e : tk ws k = sep) (B : Seg ws (k + 1) j) : Seg ws i j ∧ OP ws (k + 1) = OP ws k + 1 := by
  have d : hS sep = 0 ∧ oS sep = 1 ∧ kS sep = 0 := by rcases hs with rfl | rfl <;> decide +kernel
  obtain ⟨c1, c2, c3⟩ := cnt sep _ _ _ rfl d e
  have a1 := A.lt
  have b1 := B.lt
  refine ⟨⟨by omega, B.le, ?_, fun n h1 h2 => ?_, ?_, fun n h1 h2 h3 => ?_⟩, c2⟩
  · rw [B.h, c1, A.h]
    omega
  · by_cases c : n ≤ k
    · exact A.p n h1 c
    · have := B.p n (by omega) h2
      rw [c1, A.h] at this
      omega
  · rw [B.k, c3, A.k]
    omega
  · by_cases c : n + 1 < k
    · exact A.adj n h1 c h3
    · by_cases c2 : n + 1 = k
      · rw [c2, e]
        right
        exact hs
      · by_cases c4 : n = k
        · rw [c4, e] at h3
          rcases hs with rfl | rfl
          · exact absurd h3 (by decide +kernel)
          · exact absurd h3 (by decide +kernel)
        · exact B.adj n (by omega) h2 h3
theorem Seg.par {i k : Nat} (e1 : tk ws i = "(") (A : Seg ws (i + 1) k) (e2 : tk ws k = ")") : Seg ws i (k + 1) ∧ OP ws (i + 1) = OP ws i ∧ OP ws (k + 1) = OP ws k := by
  obtain ⟨c1, c2, c3⟩ := cnt "(" 1 0 0 rfl (by decide +kernel) e1
  obtain ⟨d1, d2, d3⟩ := cnt ")" (-1) 0 0 rfl (by decide +kernel) e2
  have a1 := A.lt
  have l2 := tk_lt ws (ne_e e2)
  have ah := A.h
  refine ⟨⟨by omega, by omega, by omega, fun n h1 h2 => ?_, ?_, fun n h1 h2 h3 => ?_⟩, c2, d2⟩
  · by_cases z : n = i
    · rw [z]
      omega
    · by_cases z2 : n = k + 1
      · rw [z2]
        omega
      · have := A.p n (by omega) (by omega)
        omega
  · rw [d3, A.k, c3]
    omega
  · by_cases z : n = i
    · rw [z, e1] at h3
      exact absurd h3 (by decide +kernel)
    · by_cases z2 : n + 1 = k
      · rw [z2, e2]
        exact .inl rfl
      · exact A.adj n (by omega) (by omega) h3
theorem Seg.neg {i k : Nat} (e1 : tk ws i = "!") (A : Seg ws (i + 1) k) : Seg ws i k ∧ OP ws (i + 1) = OP ws i + 1 := by
  obtain ⟨c1, c2, c3⟩ := cnt "!" 0 1 0 rfl (by decide +kernel) e1
  have a1 := A.lt
  have ah := A.h
  refine ⟨⟨by omega, A.le, by omega, fun n h1 h2 => ?_, ?_, fun n h1 h2 h3 => ?_⟩, c2⟩
  · by_cases z : n = i
    · rw [z]
      omega
    · have := A.p n (by omega) h2
      omega
  · rw [A.k, c3]
    omega
  · by_cases z : n = i
    · rw [z, e1] at h3
      exact absurd h3 (by decide +kernel)
    · exact A.adj n (by omega) h2 h3
/-- the sum of the depths -/
def dsm : List Cn → Nat
  | [] => 0
  | c :: r => dcn c + dsm r
theorem dsm_app : ∀ a b : List Cn, dsm (a ++ b) = dsm a + dsm b
  | [], b => by simp [dsm]
  | c :: r, b => by rw [List.cons_append, dsm, dsm, dsm_app r b]; omega
theorem dcns_app : ∀ a b : List Cn, dcns (a ++ b) = max (dcns a) (dcns b)
  | [], b => by simp [dcns]
  | c :: r, b => by rw [List.cons_append, dcns, dcns, dcns_app r b]; omega
theorem dcns_fl (a : Bool) (c : Cn) : dcns (fl a c) ≤ 1 + dcn c := by
  cases c with
  | chn b cs =>
    show dcns (if b = a then cs else [.chn b cs]) ≤ _
    split
    · rw [dcn]
      omega
    · rw [dcns, dcns]
      omega
  | _ => simp [fl, dcns]
theorem dcns_flm (a : Bool) : ∀ l : List Cn, dcns (l.flatMap (fl a)) ≤ 1 + dsm l
  | [] => by simp [dcns]
  | c :: r => by
    rw [List.flatMap_cons, dcns_app, dsm]
    have := dcns_fl a c
    have := dcns_flm a r
    omega
theorem dcn_chd (a : Bool) (l : List Cn) (h0 : 0 < l.length) : dcn (chd a l) ≤ dsm l + (l.length - 1) := by
  unfold chd
  split
  · rw [dsm, dsm]
    omega
  · rename_i h
    cases l with
    | nil => exact absurd h0 (Nat.lt_irrefl 0)
    | cons c r =>
      cases r with
      | nil => exact absurd rfl (h c)
      | cons d r =>
        have := dcns_flm a (c :: d :: r)
        rw [dcn, List.length_cons, List.length_cons]
        omega
def RdC (u : Nat → Rs Cn) : Prop := ∀ i c j, u i = .ok c j → Seg ws i j ∧ dcn c + OP ws i ≤ OP ws j
theorem leaf_rd : RdC ws (leaf ws) := by
  intro i c j h
  unfold leaf at h
  split at h
  · rename_i hn
    have l1 := isN_lt ws hn
    have nm := nm_cnt (isN_nm hn)
    obtain ⟨c1, c2, c3⟩ := cnt (tk ws i) _ _ _ rfl nm rfl
    have ne : tk ws i ≠ ")" := fun z => by
      have := isN_nm hn
      rw [z] at this
      exact absurd this (by decide +kernel)
    split at h
    · rename_i hp
      obtain ⟨a, k, h1, h2⟩ := bind_ok h
      obtain ⟨e1, rfl⟩ := xpt_ok ws h1
      cases h2
      have l2 := tk_lt ws (ne_e e1)
      obtain ⟨d1, d2, d3⟩ := cnt "(" 1 0 0 rfl (by decide +kernel) hp
      obtain ⟨f1, f2, f3⟩ := cnt ")" (-1) 0 0 rfl (by decide +kernel) e1
      have q1 : i + 1 + 1 = i + 2 := rfl
      rw [q1] at d1 d2 d3
      refine ⟨⟨by omega, by omega, by omega, fun n h1 h2 => ?_, by omega, fun n h1 h2 h3 => ?_⟩, by rw [dcn]; omega⟩
      · obtain rfl | rfl | rfl | rfl : n = i ∨ n = i + 1 ∨ n = i + 2 ∨ n = i + 2 + 1 := by omega
        · omega
        · omega
        · omega
        · omega
      · obtain rfl | rfl : n = i ∨ n = i + 1 := by omega
        · exact absurd h3 ne
        · rw [hp] at h3
          exact absurd h3 (by decide +kernel)
    · cases h
      refine ⟨⟨by omega, by omega, by omega, fun n h1 h2 => ?_, by omega, fun n h1 h2 h3 => by omega⟩, by rw [dcn]; omega⟩
      obtain rfl | rfl : n = i ∨ n = i + 1 := by omega
      · omega
      · omega
  · cases h
theorem chl_rd {sep : Str} (hs : sep = "&&" ∨ sep = "||") {u : Nat → Rs Cn} (hu : RdC ws u) : ∀ (f i : Nat) (acc l : List Cn) (j : Nat), chl ws u sep f i acc = .ok l j → Seg ws i j ∧ dsm l + (l.length - 1) + OP ws i ≤ OP ws j + dsm acc + acc.length ∧ acc.length < l.length
  | 0, _, _, _, _, h => by cases h
  | f + 1, i, acc, l, j, h => by
    obtain ⟨c, k, h1, h2⟩ := bind_ok h
    obtain ⟨a1, a2⟩ := hu i c k h1
    have e1 : dsm (acc ++ [c]) = dsm acc + dcn c := by rw [dsm_app, dsm, dsm]; omega
    have e2 : (acc ++ [c]).length = acc.length + 1 := by simp
    split at h2
    · rename_i hk
      obtain ⟨b1, b2, b3⟩ := chl_rd hs hu f (k + 1) _ l j h2
      obtain ⟨s1, s2⟩ := a1.sep ws hs hk b1
      exact ⟨s1, by omega, by omega⟩
    · cases h2
      exact ⟨a1, by omega, by omega⟩
theorem cnj_rd {u : Nat → Rs Cn} (hu : RdC ws u) : RdC ws (cnj ws u) := by
  intro i c j h
  obtain ⟨l, k, h1, h2⟩ := bind_ok h
  cases h2
  obtain ⟨a, b, d⟩ := chl_rd ws (.inl rfl) hu _ _ _ _ _ h1
  have := dcn_chd true l (by simpa using d)
  simp only [dsm, List.length_nil] at b
  exact ⟨a, by omega⟩
theorem cnd_rd {u : Nat → Rs Cn} (hu : RdC ws u) : RdC ws (cnd ws u) := by
  intro i c j h
  rw [cnd_eq] at h
  obtain ⟨l, k, h1, h2⟩ := bind_ok h
  cases h2
  obtain ⟨a, b, d⟩ := chl_rd ws (.inr rfl) (cnj_rd ws hu) _ _ _ _ _ h1
  have := dcn_chd false l (by simpa using d)
  simp only [dsm, List.length_nil] at b
  exact ⟨a, by omega⟩
theorem uny_rd : ∀ r, RdC ws (uny ws r)
  | 0 => by
    intro i c j h
    unfold uny at h
    split at h
    · cases h
    · exact leaf_rd ws i c j h
  | r + 1 => by
    intro i c j h
    unfold uny at h
    split at h
    · rename_i hb
      obtain ⟨a, k, h1, h2⟩ := bind_ok h
      cases h2
      obtain ⟨b1, b2⟩ := uny_rd r _ _ _ h1
      obtain ⟨s1, s2⟩ := b1.neg ws hb
      exact ⟨s1, by rw [dcn]; omega⟩
    · split at h
      · rename_i hb
        obtain ⟨a, k, h1, h2⟩ := bind_ok h
        obtain ⟨x, m, h3, h4⟩ := bind_ok h2
        obtain ⟨e1, rfl⟩ := xpt_ok ws h3
        cases h4
        obtain ⟨b1, b2⟩ := cnd_rd ws (uny_rd r) _ _ _ h1
        obtain ⟨s1, s2, s3⟩ := b1.par ws hb e1
        exact ⟨s1, by omega⟩
      · exact leaf_rd ws i c j h
end
end K18

/-! M4: statements read: heights at their ends, depths, conditions. -/
namespace K18
open PySem PySem.Spec L2
open PyProof.Rows hiding St
/-- at a condition that is read behind if or while the promise P holds -/
def CnH (ws : List Str) (P : Cn → Prop) : Prop := ∀ p q c, HP ws p = 0 → kS (tk ws p) = 1 → tk ws (p + 1) = "(" → Seg ws (p + 2) q → dcn c + OP ws (p + 2) ≤ OP ws q → tk ws q = ")" → P c
theorem AlL_app {P : Cn → Prop} : ∀ {a b : List Sm}, AlL P (a ++ b) ↔ AlL P a ∧ AlL P b
  | [], b => by simp [AlL]
  | c :: r, b => by rw [List.cons_append, AlL, AlL, AlL_app (a := r) (b := b), and_assoc]
section
variable (ws : List Str) (P : Cn → Prop)
def RdS (n : Nat) (u : Nat → Rs Sm) : Prop := ∀ i s j, u i = .ok s j → HP ws i = 0 → HP ws j = 0 ∧ AlS P s ∧ dpS s ≤ n
def RdL (n : Nat) (u : Nat → Rs (List Sm)) : Prop := ∀ i l j, u i = .ok l j → HP ws i = 0 → HP ws j = 0 ∧ AlL P l ∧ dB l ≤ n
theorem hp0 {x : Str} {i : Nat} (e : tk ws i = x) (d : hS x = 0) : HP ws (i + 1) = HP ws i := by
  rw [HP_succ, e, d]
  omega
theorem hpx {x : Str} {i j : Nat} {u : Unit} (h : xpt ws x i = .ok u j) (d : hS x = 0) : HP ws j = HP ws i := by
  obtain ⟨e, rfl⟩ := xpt_ok ws h
  exact hp0 ws e d
theorem hpn {i : Nat} (h : isN ws i = true) : HP ws (i + 1) = HP ws i := hp0 ws rfl (nm_cnt (isN_nm h)).1
theorem tru_rd {i j : Nat} {b : Bool} (h : tru ws i = .ok b j) : HP ws j = HP ws i := by
  unfold tru at h
  split at h
  · rename_i e
    cases h
    exact hp0 ws e (by decide +kernel)
  · split at h
    · rename_i e
      cases h
      exact hp0 ws e (by decide +kernel)
    · cases h
theorem dcl_rd {n i j : Nat} {s : Sm} (ht : tk ws i = "let") (h : dcl ws i = .ok s j) (h0 : HP ws i = 0) : HP ws j = 0 ∧ AlS P s ∧ dpS s ≤ n := by
  unfold dcl at h
  split at h
  · rename_i hn
    obtain ⟨_, a, h1, h2⟩ := bind_ok h
    obtain ⟨b, k, h3, h4⟩ := bind_ok h2
    obtain ⟨_, l, h5, h6⟩ := bind_ok h4
    cases h6
    have e0 := hp0 ws ht (by decide +kernel)
    have e1 := hpn ws hn
    have e2 := hpx ws h1 (by decide +kernel)
    have e3 := tru_rd ws h3
    have e4 := hpx ws h5 (by decide +kernel)
    have q : i + 1 + 1 = i + 2 := rfl
    rw [q] at e1
    exact ⟨by omega, by rw [AlS]; trivial, by rw [dpS]; omega⟩
  · cases h
theorem jmp_rd {n i j : Nat} {s : Sm} (hw : tk ws i = "break" ∨ tk ws i = "continue") (h : jmp ws i = .ok s j) (h0 : HP ws i = 0) : HP ws j = 0 ∧ AlS P s ∧ dpS s ≤ n := by
  have e0 : HP ws (i + 1) = HP ws i := by
    rcases hw with z | z
    · exact hp0 ws z (by decide +kernel)
    · exact hp0 ws z (by decide +kernel)
  have q : i + 1 + 1 = i + 2 := rfl
  unfold jmp at h
  split at h
  · rename_i hn
    obtain ⟨_, a, h1, h2⟩ := bind_ok h
    cases h2
    have e1 := hpn ws hn
    have e2 := hpx ws h1 (by decide +kernel)
    rw [q] at e1
    exact ⟨by omega, by rw [AlS]; exact hw, by rw [dpS]; omega⟩
  · split at h
    · rename_i z
      cases h
      have e1 := hp0 ws z (by decide +kernel)
      rw [q] at e1
      exact ⟨by omega, by rw [AlS]; exact hw, by rw [dpS]; omega⟩
    · cases h
theorem fin_rd {n i j : Nat} {s : Sm} (hw : tk ws i = "return") (h : fin ws i = .ok s j) (h0 : HP ws i = 0) : HP ws j = 0 ∧ AlS P s ∧ dpS s ≤ n := by
  have e0 := hp0 ws hw (by decide +kernel)
  have q : i + 1 + 1 = i + 2 := rfl
  unfold fin at h
  split at h
  · rename_i hn
    obtain ⟨_, a, h1, h2⟩ := bind_ok h
    cases h2
    have e1 : HP ws (i + 1 + 1) = HP ws (i + 1) := hp0 ws rfl (by
      have n1 : tk ws (i + 1) ≠ "(" := fun z => by rw [z] at hn; exact absurd hn.2 (by decide +kernel)
      have n2 : tk ws (i + 1) ≠ ")" := fun z => by rw [z] at hn; exact absurd hn.2 (by decide +kernel)
      unfold hS
      rw [if_neg n1, if_neg n2])
    have e2 := hpx ws h1 (by decide +kernel)
    rw [q] at e1
    exact ⟨by omega, by rw [AlS]; trivial, by rw [dpS]; omega⟩
  · split at h
    · rename_i z
      cases h
      have e1 := hp0 ws z (by decide +kernel)
      rw [q] at e1
      exact ⟨by omega, by rw [AlS]; trivial, by rw [dpS]; omega⟩
    · cases h
theorem cts_rd {n : Nat} {u : Nat → Rs (List Sm)} (hu : RdL ws P n u) {cl : Str} : ∀ (f i : Nat) (acc l : List Sm) (j : Nat), cts ws u cl f i acc = .ok l j → HP ws i = 0 → AlL P acc → dB acc ≤ n → HP ws j = 0 ∧ AlL P l ∧ dB l ≤ n
  | 0, _, _, _, _, h, _, _, _ => by cases h
  | f + 1, i, acc, l, j, h, h0, ha, hd => by
    unfold cts at h
    split at h
    · cases h
      exact ⟨h0, ha, hd⟩
    · split at h
      · cases h
      · obtain ⟨a, k, h1, h2⟩ := bind_ok h
        obtain ⟨a1, a2, a3⟩ := hu _ _ _ h1 h0
        exact cts_rd hu f k _ l j h2 a1 (AlL_app.mpr ⟨ha, a2⟩) (by rw [dB_app]; omega)
theorem blc_rd {n : Nat} {u : Nat → Rs (List Sm)} (hu : RdL ws P n u) : RdL ws P n (blc ws u) := by
  intro i l j h h0
  unfold blc at h
  obtain ⟨_, a, h1, h2⟩ := bind_ok h
  obtain ⟨l', b, h3, h4⟩ := bind_ok h2
  obtain ⟨_, c, h5, h6⟩ := bind_ok h4
  cases h6
  have e1 := hpx ws h1 (by decide +kernel)
  obtain ⟨b1, b2, b3⟩ := cts_rd ws P hu _ _ _ _ _ h3 (by omega) (by rw [AlL]; trivial) (by rw [dB]; omega)
  have e2 := hpx ws h5 (by decide +kernel)
  exact ⟨by omega, b2, b3⟩
theorem item_rd {s : Nat → Nat → Rs (List Sm)} : ∀ {R : Nat}, (∀ R', R = R' + 1 → RdL ws P R (s R)) → RdL ws P R (item ws s R)
  | 0, _ => fun _ _ _ h _ => by cases h
  | R + 1, hs => by
    intro i l j h h0
    rw [item] at h
    split at h
    · rename_i ht
      obtain ⟨d, k, h1, h2⟩ := bind_ok h
      cases h2
      obtain ⟨a, b, e⟩ := dcl_rd ws P (n := R) ht h1 h0
      refine ⟨a, by rw [AlL, AlL]; exact ⟨b, trivial⟩, ?_⟩
      rw [dB, dB]
      omega
    · exact hs R rfl _ _ _ h h0
theorem bdy_rd {s : Nat → Nat → Rs (List Sm)} {R : Nat} (hs : ∀ R', R = R' + 1 → RdL ws P R (s R)) : RdL ws P R (bdy ws s R) := by
  intro i l j h h0
  unfold bdy at h
  split at h
  · exact blc_rd ws P (item_rd ws P hs) _ _ _ h h0
  · cases R with
    | zero => cases h
    | succ R =>
      simp only at h
      split at h
      · cases h
      · exact hs R rfl _ _ _ h h0
theorem cond_rd {p k a b : Nat} {c : Cn} {x y : Unit} (hC : CnH ws P) (h0 : HP ws p = 0) (hk : kS (tk ws p) = 1) (h1 : xpt ws "(" (p + 1) = .ok x a) (h2 : cnd ws (uny ws 20) a = .ok c k) (h3 : xpt ws ")" k = .ok y b) (hz : hS (tk ws p) = 0) : P c ∧ HP ws b = 0 := by
  obtain ⟨e1, rfl⟩ := xpt_ok ws h1
  obtain ⟨s1, s2⟩ := cnd_rd ws (uny_rd ws 20) _ _ _ h2
  obtain ⟨e3, rfl⟩ := xpt_ok ws h3
  refine ⟨hC p k c h0 hk e1 s1 s2 e3, ?_⟩
  have a1 := HP_succ ws p
  have a2 := HP_succ ws (p + 1)
  have a3 := HP_succ ws k
  have a4 := s1.h
  rw [e1, show hS "(" = 1 by decide +kernel] at a2
  rw [e3, show hS ")" = -1 by decide +kernel] at a3
  omega
theorem lop_rd {s : Nat → Nat → Rs (List Sm)} {R : Nat} {l : Option Str} {i j : Nat} {c : Sm} (hC : CnH ws P) (hs : ∀ R', R = R' + 1 → RdL ws P R (s R)) (hw : tk ws i = "while" ∨ tk ws i = "for") (h : lop ws s R l i = .ok c j) (h0 : HP ws i = 0) : HP ws j = 0 ∧ AlS P c ∧ dpS c ≤ R := by
  unfold lop at h
  split at h
  · rename_i hk
    obtain ⟨_, a, h1, h2⟩ := bind_ok h
    obtain ⟨d, b, h3, h4⟩ := bind_ok h2
    obtain ⟨_, k, h5, h6⟩ := bind_ok h4
    obtain ⟨q, o, h7, h8⟩ := bind_ok h6
    cases h8
    obtain ⟨p1, p2⟩ := cond_rd ws P hC h0 (by rw [hk]; decide +kernel) h1 h3 h5 (by rw [hk]; decide +kernel)
    obtain ⟨d1, d2, d3⟩ := bdy_rd ws P hs _ _ _ h7 p2
    exact ⟨d1, by rw [AlS]; exact ⟨p1, d2⟩, by rw [dpS]; exact d3⟩
  · rename_i hk
    have hw := hw.resolve_left hk
    obtain ⟨_, a, h1, h2⟩ := bind_ok h
    obtain ⟨_, b, h3, h4⟩ := bind_ok h2
    obtain ⟨_, k, h5, h6⟩ := bind_ok h4
    obtain ⟨_, o, h7, h8⟩ := bind_ok h6
    obtain ⟨q, p, h9, h0'⟩ := bind_ok h8
    cases h0'
    have e0 := hp0 ws hw (by decide +kernel)
    obtain ⟨e1, rfl⟩ := xpt_ok ws h1
    have e2 := hpx ws h3 (by decide +kernel)
    have e3 := hpx ws h5 (by decide +kernel)
    obtain ⟨e4, rfl⟩ := xpt_ok ws h7
    have a2 := HP_succ ws (i + 1)
    have a3 := HP_succ ws k
    rw [e1, show hS "(" = 1 by decide +kernel] at a2
    rw [e4, show hS ")" = -1 by decide +kernel] at a3
    obtain ⟨d1, d2, d3⟩ := bdy_rd ws P hs _ _ _ h9 (by omega)
    exact ⟨d1, by rw [AlS]; exact d2, by rw [dpS]; exact d3⟩
theorem nmd_rd {s : Nat → Nat → Rs (List Sm)} {R : Nat} {i j : Nat} {c : Sm} (hC : CnH ws P) (hs : ∀ R', R = R' + 1 → RdL ws P R (s R)) (hn : isN ws i = true) (h : nmd ws s R i = .ok c j) (h0 : HP ws i = 0) : HP ws j = 0 ∧ AlS P c ∧ dpS c ≤ R := by
  have e0 := hpn ws hn
  have q : i + 1 + 1 = i + 2 := rfl
  unfold nmd at h
  split at h
  · rename_i hp
    obtain ⟨_, a, h1, h2⟩ := bind_ok h
    obtain ⟨_, b, h3, h4⟩ := bind_ok h2
    cases h4
    obtain ⟨e4, rfl⟩ := xpt_ok ws h1
    have a2 := HP_succ ws (i + 1)
    have a3 := HP_succ ws (i + 2)
    rw [hp, show hS "(" = 1 by decide +kernel, q] at a2
    rw [e4, show hS ")" = -1 by decide +kernel] at a3
    have e2 := hpx ws h3 (by decide +kernel)
    exact ⟨by omega, by rw [AlS]; trivial, by rw [dpS]; omega⟩
  · split at h
    · rename_i hp
      obtain ⟨_, a, h1, h2⟩ := bind_ok h
      obtain ⟨_, b, h3, h4⟩ := bind_ok h2
      cases h4
      have e1 := hp0 ws hp (by decide +kernel)
      rw [q] at e1
      have e2 := tru_rd ws h1
      have e3 := hpx ws h3 (by decide +kernel)
      exact ⟨by omega, by rw [AlS]; trivial, by rw [dpS]; omega⟩
    · split at h
      · rename_i hp
        split at h
        · rename_i z
          have e1 := hp0 ws hp (by decide +kernel)
          rw [q] at e1
          exact lop_rd ws P hC hs z h (by omega)
        · cases h
      · cases h
theorem chc_rd {s : Nat → Nat → Rs (List Sm)} {R : Nat} {i j : Nat} {c : Sm} (hC : CnH ws P) (hs : ∀ R', R = R' + 1 → RdL ws P R (s R)) (hk : tk ws i = "if") (h : chc ws s R i = .ok c j) (h0 : HP ws i = 0) : HP ws j = 0 ∧ AlS P c ∧ dpS c ≤ R := by
  unfold chc at h
  obtain ⟨_, a, h1, h2⟩ := bind_ok h
  obtain ⟨d, b, h3, h4⟩ := bind_ok h2
  obtain ⟨_, k, h5, h6⟩ := bind_ok h4
  obtain ⟨q, o, h7, h8⟩ := bind_ok h6
  obtain ⟨p1, p2⟩ := cond_rd ws P hC h0 (by rw [hk]; decide +kernel) h1 h3 h5 (by rw [hk]; decide +kernel)
  obtain ⟨d1, d2, d3⟩ := bdy_rd ws P hs _ _ _ h7 p2
  split at h8
  · rename_i he
    obtain ⟨g, p, h9, h0'⟩ := bind_ok h8
    cases h0'
    have e1 := hp0 ws he (by decide +kernel)
    obtain ⟨f1, f2, f3⟩ := bdy_rd ws P hs _ _ _ h9 (by omega)
    exact ⟨f1, by rw [AlS]; exact ⟨p1, d2, f2⟩, by rw [dpS]; omega⟩
  · cases h8
    refine ⟨d1, by rw [AlS, AlL]; exact ⟨p1, d2, trivial⟩, ?_⟩
    rw [dpS, show dB ([] : List Sm) = 0 by simp [dB]]
    omega
theorem atm_rd {s : Nat → Nat → Rs (List Sm)} {R : Nat} {i j : Nat} {c : Sm} (hs : ∀ R', R = R' + 1 → RdL ws P R (s R)) (hw : tk ws i = "try") (h : atm ws s R i = .ok c j) (h0 : HP ws i = 0) : HP ws j = 0 ∧ AlS P c ∧ dpS c ≤ R := by
  have e0 := hp0 ws hw (by decide +kernel)
  unfold atm at h
  obtain ⟨b, a, h1, h2⟩ := bind_ok h
  obtain ⟨_, k, h3, h4⟩ := bind_ok h2
  obtain ⟨l, o, h5, h6⟩ := bind_ok h4
  cases h6
  obtain ⟨a1, a2, a3⟩ := blc_rd ws P (item_rd ws P hs) _ _ _ h1 (by omega)
  have e1 := hpx ws h3 (by decide +kernel)
  obtain ⟨c1, c2, c3⟩ := blc_rd ws P (item_rd ws P hs) _ _ _ h5 (by omega)
  exact ⟨c1, by rw [AlS]; exact ⟨a2, c2⟩, by rw [dpS]; omega⟩
theorem stm_rd (hC : CnH ws P) : ∀ R, RdL ws P R (stm ws R)
  | 0 => fun _ _ _ h _ => by cases h
  | R + 1 => by
    have IH : ∀ R', R = R' + 1 → RdL ws P R ((fun (_ : Nat) => stm ws R) R) := fun _ _ => stm_rd hC R
    intro i l j h h0
    have p1 : ∀ {r : Rs Sm}, one r = .ok l j → (∀ s, r = .ok s j → HP ws j = 0 ∧ AlS P s ∧ dpS s ≤ R) → HP ws j = 0 ∧ AlL P l ∧ dB l ≤ R + 1 := by
      intro r h k
      obtain ⟨s, h1, rfl⟩ := one_ok h
      obtain ⟨a, b, e⟩ := k s h1
      refine ⟨a, by rw [AlL, AlL]; exact ⟨b, trivial⟩, ?_⟩
      rw [dB, dB]
      omega
    rw [stm] at h
    split at h
    · rename_i z
      cases h
      have e0 := hp0 ws z (by decide +kernel)
      exact ⟨by omega, by rw [AlL]; trivial, by rw [dB]; omega⟩
    · split at h
      · obtain ⟨b, k, h1, h2⟩ := bind_ok h
        cases h2
        obtain ⟨a1, a2, a3⟩ := blc_rd ws P (item_rd ws P (s := fun _ => stm ws R) IH) _ _ _ h1 h0
        refine ⟨a1, by rw [AlL, AlL, AlS]; exact ⟨a2, trivial⟩, ?_⟩
        rw [dB, dB, dpS]
        omega
      · split at h
        · rename_i z
          exact p1 h fun s e => nmd_rd ws P (s := fun _ => stm ws R) hC IH z e h0
        · split at h
          · rename_i z
            exact p1 h fun s e => chc_rd ws P (s := fun _ => stm ws R) hC IH z e h0
          · split at h
            · rename_i z
              exact p1 h fun s e => lop_rd ws P (s := fun _ => stm ws R) hC IH z e h0
            · split at h
              · rename_i z
                exact p1 h fun s e => jmp_rd ws P z e h0
              · split at h
                · rename_i z
                  exact p1 h fun s e => fin_rd ws P z e h0
                · split at h
                  · rename_i z
                    exact p1 h fun s e => atm_rd ws P (s := fun _ => stm ws R) IH z e h0
                  · cases h
/-- a whole text -/
theorem prg_rd (hC : CnH ws P) {l : List Sm} {j : Nat} (h : prg ws = .ok l j) : AlL P l ∧ dB l ≤ 41 := by
  obtain ⟨_, a, b⟩ := cts_rd ws P (item_rd ws P (R := 41) fun _ _ => stm_rd ws P hC 41) _ _ _ _ _ h (HP_zero ws) (by rw [AlL]; trivial) (by rw [dB]; omega)
  exact ⟨a, b⟩
end
mutual
theorem dcS_le : ∀ (s : Sm), AlS (fun c => dcn c ≤ 20) s → dcS s ≤ 20
  | .ite c f s, h => by rw [AlS] at h; have := dcs_le f h.2.1; have := dcs_le s h.2.2; rw [dcS]; have := h.1; omega
  | .whl _ c b, h => by rw [AlS] at h; have := dcs_le b h.2; rw [dcS]; have := h.1; omega
  | .frl _ b, h => by rw [AlS] at h; rw [dcS]; exact dcs_le b h
  | .tri b l, h => by rw [AlS] at h; have := dcs_le b h.1; have := dcs_le l h.2; rw [dcS]; omega
  | .blk b, h => by rw [AlS] at h; rw [dcS]; exact dcs_le b h
  | .call _, _ => by rw [dcS]; omega
  | .dcl _ _, _ => by rw [dcS]; omega
  | .set _ _, _ => by rw [dcS]; omega
  | .jmp _ _, _ => by rw [dcS]; omega
  | .ret _, _ => by rw [dcS]; omega
theorem dcs_le : ∀ (l : List Sm), AlL (fun c => dcn c ≤ 20) l → dcs l ≤ 20
  | [], _ => by rw [dcs]; omega
  | s :: r, h => by rw [AlL] at h; have := dcS_le s h.1; have := dcs_le r h.2; rw [dcs]; omega
end
mutual
theorem okS_of : ∀ (s : Sm), AlS (fun c => dcn c ≤ 20) s → plc s ≤ 200 → AlS (okC 20) s
  | .ite c f s, h, p => by
    rw [AlS] at h ⊢
    rw [plc] at p
    exact ⟨⟨h.1, by omega⟩, okL_of f h.2.1 (by omega), okL_of s h.2.2 (by omega)⟩
  | .whl _ c b, h, p => by
    rw [AlS] at h ⊢
    rw [plc] at p
    exact ⟨⟨h.1, by omega⟩, okL_of b h.2 (by omega)⟩
  | .frl _ b, h, p => by
    rw [AlS] at h ⊢
    rw [plc] at p
    exact okL_of b h (by omega)
  | .tri b l, h, p => by
    rw [AlS] at h ⊢
    rw [plc] at p
    exact ⟨okL_of b h.1 (by omega), okL_of l h.2 (by omega)⟩
  | .blk b, h, p => by
    rw [AlS] at h ⊢
    rw [plc] at p
    exact okL_of b h (by omega)
  | .call _, _, _ => by rw [AlS]; trivial
  | .dcl _ _, _, _ => by rw [AlS]; trivial
  | .set _ _, _, _ => by rw [AlS]; trivial
  | .jmp _ _, h, _ => by rw [AlS] at h ⊢; exact h
  | .ret _, _, _ => by rw [AlS]; trivial
theorem okL_of : ∀ (l : List Sm), AlL (fun c => dcn c ≤ 20) l → plcs l ≤ 200 → AlL (okC 20) l
  | [], _, _ => by rw [AlL]; trivial
  | s :: r, h, p => by
    rw [AlL] at h ⊢
    rw [plcs] at p
    exact ⟨okS_of s h.1 (by omega), okL_of r h.2 (by omega)⟩
end
/-- a text whose words weigh at most 200 and whose conditions are shallow is read as a program that fits -/
theorem prg_fits {ws : List Str} (hC : CnH ws fun c => dcn c ≤ 20) (hw : ∀ j, Cw ws j ≤ 200) {l : List Sm} {j : Nat} (h : prg ws = .ok l j) : fits l := by
  obtain ⟨a, b⟩ := prg_rd ws _ hC h
  have p := (prg_pays ws h).1
  have := hw j
  exact ⟨⟨okL_of l a (by omega), b⟩, by omega, dcs_le l a⟩
end K18

/-! M5: rows of words that were changed at two places: what is read as a condition has few signs. -/
namespace K18
open PySem PySem.Spec L2
open PyProof.Rows hiding St
inductive Ed : List Str → List Str → Prop
  | sub (P m m' S : List Str) : m.length ≤ 1 → m'.length ≤ 1 → Ed (P ++ (m ++ S)) (P ++ (m' ++ S))
  | swp (P : List Str) (y z : Str) (S : List Str) : Ed (P ++ y :: z :: S) (P ++ z :: y :: S)
theorem tk_app_l {a b : List Str} {n : Nat} (h : n < a.length) : tk (a ++ b) n = tk a n := by
  unfold tk
  rw [List.getD_eq_getElem?_getD, List.getD_eq_getElem?_getD, List.getElem?_append_left h]
theorem tk_app_r {a b : List Str} (n : Nat) : tk (a ++ b) (a.length + n) = tk b n := by
  unfold tk
  rw [List.getD_eq_getElem?_getD, List.getD_eq_getElem?_getD, List.getElem?_append_right (by omega), Nat.add_sub_cancel_left]
theorem take_app_r (a b : List Str) (n : Nat) : (a ++ b).take (a.length + n) = a ++ b.take n := by
  rw [take_app, List.take_of_length_le (by omega), Nat.add_sub_cancel_left]
theorem HP_app_l {a b : List Str} {n : Nat} (h : n ≤ a.length) : HP (a ++ b) n = HP a n ∧ OP (a ++ b) n = OP a n ∧ KP (a ++ b) n = KP a n := by
  unfold HP OP KP
  rw [List.take_append_of_le_length h]
  exact ⟨rfl, rfl, rfl⟩
theorem HP_app_r (a b : List Str) (n : Nat) : HP (a ++ b) (a.length + n) = Hh a + HP b n ∧ OP (a ++ b) (a.length + n) = Oo a + OP b n ∧ KP (a ++ b) (a.length + n) = Kk a + KP b n := by
  unfold HP OP KP
  rw [take_app_r, Hh_app, Oo_app, Kk_app]
  exact ⟨rfl, rfl, rfl⟩
theorem st_o (ws : List Str) (n : Nat) : OP ws n ≤ OP ws (n + 1) ∧ OP ws (n + 1) ≤ OP ws n + 1 := by
  rw [OP_succ]
  have : oS (tk ws n) ≤ 1 := by unfold oS; split <;> omega
  omega
theorem st_k (ws : List Str) (n : Nat) : KP ws n ≤ KP ws (n + 1) := by
  rw [KP_succ]
  omega
theorem KP_mono (ws : List Str) {i j : Nat} (h : i ≤ j) : KP ws i ≤ KP ws j := Kk_mono ws h
theorem OP_mono (ws : List Str) {i j : Nat} (h : i ≤ j) : OP ws i ≤ OP ws j := by
  induction h with
  | refl => exact Nat.le_refl _
  | step _ ih => exact Nat.le_trans ih (st_o ws _).1
theorem kw_0 {x : Str} (h : kS x = 1) : hS x = 0 ∧ oS x = 0 := by
  have : x = "if" ∨ x = "while" := by
    unfold kS at h
    split at h
    · assumption
    · cases h
  rcases this with rfl | rfl <;> decide +kernel
theorem kS_01 (x : Str) : kS x = 0 ∨ kS x = 1 := by
  unfold kS
  split
  · exact .inr rfl
  · exact .inl rfl
/-- W is V with at most one word put for at most one word at r -/
structure Sb (V W : List Str) (r a b : Nat) : Prop where
  a1 : a ≤ 1
  b1 : b ≤ 1
  hl : ∀ n, n ≤ r → HP W n = HP V n ∧ OP W n = OP V n ∧ KP W n = KP V n
  hr : ∀ n, HP W (r + b + n) + HP V (r + a) = HP V (r + a + n) + HP W (r + b) ∧ OP W (r + b + n) + OP V (r + a) = OP V (r + a + n) + OP W (r + b) ∧ KP W (r + b + n) + KP V (r + a) = KP V (r + a + n) + KP W (r + b)
  tl : ∀ n, n < r → tk W n = tk V n
  tr : ∀ n, tk W (r + b + n) = tk V (r + a + n)
/-- two words change their places at r -/
structure Sw (V W : List Str) (r : Nat) : Prop where
  h : ∀ n, n ≠ r + 1 → HP W n = HP V n ∧ OP W n = OP V n ∧ KP W n = KP V n
  t : ∀ n, n ≠ r → n ≠ r + 1 → tk W n = tk V n
  t0 : tk W r = tk V (r + 1)
  t1 : tk W (r + 1) = tk V r
theorem Ed.cases' {V W : List Str} (e : Ed V W) : (∃ r a b, Sb V W r a b) ∨ ∃ r, Sw V W r := by
  cases e with
  | sub P m m' S h1 h2 =>
    left
    refine ⟨P.length, m.length, m'.length, h1, h2, fun n h => ?_, fun n => ?_, fun n h => ?_, fun n => ?_⟩
    · have a1 := HP_app_l (a := P) (b := m ++ S) h
      have a2 := HP_app_l (a := P) (b := m' ++ S) h
      rw [a1.1, a1.2.1, a1.2.2, a2.1, a2.2.1, a2.2.2]
      exact ⟨rfl, rfl, rfl⟩
    · have e1 : ∀ q : List Str, ∀ n, HP (P ++ (q ++ S)) (P.length + q.length + n) = Hh P + Hh q + HP S n ∧ OP (P ++ (q ++ S)) (P.length + q.length + n) = Oo P + Oo q + OP S n ∧ KP (P ++ (q ++ S)) (P.length + q.length + n) = Kk P + Kk q + KP S n := fun q n => by
        rw [Nat.add_assoc]
        obtain ⟨x1, x2, x3⟩ := HP_app_r P (q ++ S) (q.length + n)
        obtain ⟨y1, y2, y3⟩ := HP_app_r q S n
        rw [x1, x2, x3, y1, y2, y3]
        exact ⟨by omega, by omega, by omega⟩
      obtain ⟨x1, x2, x3⟩ := e1 m n
      obtain ⟨y1, y2, y3⟩ := e1 m' n
      obtain ⟨z1, z2, z3⟩ := e1 m 0
      obtain ⟨w1, w2, w3⟩ := e1 m' 0
      rw [Nat.add_zero] at z1 z2 z3 w1 w2 w3
      exact ⟨by omega, by omega, by omega⟩
    · rw [tk_app_l h, tk_app_l h]
    · rw [Nat.add_assoc, Nat.add_assoc, tk_app_r, tk_app_r, tk_app_r, tk_app_r]
  | swp P y z S =>
    right
    have q2 : ∀ (y z : Str) (n : Nat), tk (P ++ y :: z :: S) (P.length + (n + 2)) = tk S n := fun y z n => by rw [tk_app_r]; rfl
    refine ⟨P.length, fun n h => ?_, fun n h1 h2 => ?_, ?_, ?_⟩
    · by_cases c : n ≤ P.length
      · have a1 := HP_app_l (a := P) (b := y :: z :: S) c
        have a2 := HP_app_l (a := P) (b := z :: y :: S) c
        rw [a1.1, a1.2.1, a1.2.2, a2.1, a2.2.1, a2.2.2]
        exact ⟨rfl, rfl, rfl⟩
      · obtain ⟨k, rfl⟩ : ∃ k, n = P.length + (k + 2) := ⟨n - P.length - 2, by omega⟩
        obtain ⟨x1, x2, x3⟩ := HP_app_r P (y :: z :: S) (k + 2)
        obtain ⟨y1, y2, y3⟩ := HP_app_r P (z :: y :: S) (k + 2)
        have e : ∀ u v : Str, HP (u :: v :: S) (k + 2) = hS u + hS v + HP S k ∧ OP (u :: v :: S) (k + 2) = oS u + oS v + OP S k ∧ KP (u :: v :: S) (k + 2) = kS u + kS v + KP S k := fun u v => by
          unfold HP OP KP
          rw [List.take_succ_cons, List.take_succ_cons, Hh_cons, Hh_cons, Oo_cons, Oo_cons, Kk_cons, Kk_cons]
          exact ⟨by omega, by omega, by omega⟩
        obtain ⟨u1, u2, u3⟩ := e y z
        obtain ⟨v1, v2, v3⟩ := e z y
        rw [x1, x2, x3, y1, y2, y3, u1, u2, u3, v1, v2, v3]
        exact ⟨by omega, by omega, by omega⟩
    · by_cases c : n < P.length
      · rw [tk_app_l c, tk_app_l c]
      · obtain ⟨k, rfl⟩ : ∃ k, n = P.length + (k + 2) := ⟨n - P.length - 2, by omega⟩
        rw [q2, q2]
    · have e1 := tk_app_r (a := P) (b := z :: y :: S) 0
      have e2 := tk_app_r (a := P) (b := y :: z :: S) 1
      rw [Nat.add_zero] at e1
      rw [e1, e2]
      rfl
    · have e1 := tk_app_r (a := P) (b := y :: z :: S) 0
      have e2 := tk_app_r (a := P) (b := z :: y :: S) 1
      rw [Nat.add_zero] at e1
      rw [e1, e2]
      rfl
/-- what is known of the words that were drawn -/
structure Dr (D : List Str) : Prop where
  p : ∀ n, 0 ≤ HP D n
  k : ∀ n, kS (tk D n) = 1 → HP D n = 0 ∧ tk D (n + 1) = "(" ∧ fstW (tk D (n + 2))
  o : ∀ i j, i ≤ j → KP D i = KP D j → OP D j ≤ OP D i + 14
/-- a window that is read as a condition -/
structure Win (W : List Str) (s t : Nat) : Prop where
  le : s ≤ t
  h : ∀ n, s ≤ n → n ≤ t → 1 ≤ HP W n
  z : HP W (t + 1) = 0
  k : KP W s = KP W t
  e : tk W t = ")"
  adj : ∀ n, s ≤ n → n + 1 < t → tk W n = ")" → tk W (n + 1) = ")" ∨ tk W (n + 1) = "&&" ∨ tk W (n + 1) = "||"
section
variable {D V W : List Str} {r a b r1 a1 b1 r2 a2 b2 s t : Nat}
/-- the window ahead of a change of one word -/
theorem Sb.pull (B : Sb V W r a b) (hst : s ≤ t) (hk : KP W s = KP W t) :
    (∃ s' t', s' ≤ t' ∧ KP V s' = KP V t' ∧ OP W t + OP V s' ≤ OP W s + OP V t' + 1 ∧ ∀ n, s' ≤ n → n ≤ t' → (n ≤ r ∧ s ≤ n ∧ n ≤ t) ∨ (r + a ≤ n ∧ s + a ≤ n + b ∧ n + b ≤ t + a)) ∨
    (a = 1 ∧ kS (tk V r) = 1 ∧ s < r ∧ r + b < t) := by
  have ha := B.a1
  have hb := B.b1
  by_cases c1 : t ≤ r
  · obtain ⟨x1, x2, x3⟩ := B.hl t c1
    obtain ⟨y1, y2, y3⟩ := B.hl s (by omega)
    exact .inl ⟨s, t, hst, by omega, by omega, fun n _ _ => .inl ⟨by omega, by omega, by omega⟩⟩
  by_cases c2 : r + b ≤ s
  · obtain ⟨k, rfl⟩ : ∃ k, s = r + b + k := ⟨s - r - b, by omega⟩
    obtain ⟨j, rfl⟩ : ∃ j, t = r + b + j := ⟨t - r - b, by omega⟩
    obtain ⟨x1, x2, x3⟩ := B.hr k
    obtain ⟨y1, y2, y3⟩ := B.hr j
    exact .inl ⟨r + a + k, r + a + j, by omega, by omega, by omega, fun n _ _ => .inr ⟨by omega, by omega, by omega⟩⟩
  obtain ⟨j, rfl⟩ : ∃ j, t = r + b + j := ⟨t - r - b, by omega⟩
  obtain ⟨y1, y2, y3⟩ := B.hr j
  have hs : s ≤ r := by omega
  obtain ⟨x1, x2, x3⟩ := B.hl s hs
  obtain ⟨z1, z2, z3⟩ := B.hl r (Nat.le_refl _)
  have m1 := KP_mono W (show r ≤ r + b by omega)
  have m2 := KP_mono W (show s ≤ r by omega)
  have m3 := KP_mono W (show r + b ≤ r + b + j by omega)
  have o1 : OP W (r + b) ≤ OP W r + 1 := by
    rcases (show b = 0 ∨ b = 1 by omega) with rfl | rfl
    · exact Nat.le_add_right _ _
    · exact (st_o W r).2
  have o2 := OP_mono V (show r ≤ r + a by omega)
  by_cases c3 : a = 1 ∧ kS (tk V r) = 1
  · obtain ⟨rfl, c3⟩ := c3
    by_cases c4 : s = r
    · subst c4
      exact .inl ⟨s + 1, s + 1 + j, by omega, by omega, by omega, fun n _ _ => .inr ⟨by omega, by omega, by omega⟩⟩
    by_cases c5 : j = 0
    · subst c5
      exact .inl ⟨s, r, by omega, by omega, by simp only [Nat.add_zero] at *; omega, fun n _ _ => .inl ⟨by omega, by omega, by omega⟩⟩
    exact .inr ⟨rfl, c3, by omega, by omega⟩
  · have kz : KP V (r + a) = KP V r := by
      rcases (show a = 0 ∨ a = 1 by omega) with rfl | rfl
      · rfl
      · have := KP_succ V r
        rcases kS_01 (tk V r) with z | z
        · omega
        · exact absurd ⟨rfl, z⟩ c3
    exact .inl ⟨s, r + a + j, by omega, by omega, by omega, fun n _ _ => by omega⟩
/-- the window ahead of a change of places -/
theorem Sw.pull (B : Sw V W r) (hst : s ≤ t) (hk : KP W s = KP W t) :
    ∃ s' t', s' ≤ t' ∧ KP V s' = KP V t' ∧ OP W t + OP V s' ≤ OP W s + OP V t' + 1 ∧ s ≤ s' ∧ t' ≤ t ∨ s = t := by
  by_cases c0 : s = t
  · exact ⟨0, 0, .inr c0⟩
  by_cases c1 : s = r + 1
  · obtain ⟨x1, x2, x3⟩ := B.h (r + 2) (by omega)
    obtain ⟨y1, y2, y3⟩ := B.h t (by omega)
    have m := KP_mono W (show r + 1 ≤ r + 2 by omega)
    have m2 := KP_mono W (show r + 2 ≤ t by omega)
    have o := st_o W (r + 1)
    have q : r + 1 + 1 = r + 2 := rfl
    rw [q] at o
    subst c1
    exact ⟨r + 2, t, .inl ⟨by omega, by omega, by omega, by omega, Nat.le_refl _⟩⟩
  obtain ⟨x1, x2, x3⟩ := B.h s c1
  by_cases c2 : t = r + 1
  · obtain ⟨y1, y2, y3⟩ := B.h r (by omega)
    have m := KP_mono W (show s ≤ r by omega)
    have m2 := KP_mono W (show r ≤ r + 1 by omega)
    have o := st_o W r
    subst c2
    exact ⟨s, r, .inl ⟨by omega, by omega, by omega, Nat.le_refl _, by omega⟩⟩
  obtain ⟨y1, y2, y3⟩ := B.h t c2
  exact ⟨s, t, .inl ⟨hst, by omega, by omega, Nat.le_refl _, Nat.le_refl _⟩⟩
theorem one_sw (hD : Dr D) (B : Sw D V r) (hst : s ≤ t) (hk : KP V s = KP V t) : OP V t ≤ OP V s + 15 := by
  obtain ⟨s', t', ⟨h1, h2, h3, _, _⟩ | h⟩ := B.pull hst hk
  · have := hD.o s' t' h1 h2
    omega
  · rw [h]
    omega
/-- the right part of a window is whole -/
theorem right_whole (hD : Dr D) (B : Sb D V r1 1 b1) (hkw : kS (tk D r1) = 1) {n : Nat} (hn : r1 + b1 ≤ n) : HP V (r1 + b1) ≤ HP V n := by
  obtain ⟨k, rfl⟩ : ∃ k, n = r1 + b1 + k := ⟨n - r1 - b1, by omega⟩
  have x := (B.hr k).1
  have z := (hD.k r1 hkw).1
  have z1 := HP_succ D r1
  rw [(kw_0 hkw).1] at z1
  have := hD.p (r1 + 1 + k)
  omega
/-- a keyword taken away by the second change -/
theorem kw_second (hD : Dr D) (e1 : (∃ r a b, Sb D V r a b) ∨ ∃ r, Sw D V r) (B : Sb V W r2 1 b2) (hkw : kS (tk V r2) = 1) (X : Win W s t) (h1 : s < r2) (h2 : r2 + b2 < t) : OP W t ≤ OP W s + 16 := by
  obtain ⟨j, rfl⟩ : ∃ j, t = r2 + b2 + j := ⟨t - r2 - b2, by omega⟩
  have hb := B.b1
  have w1 := X.h r2 (by omega) (by omega)
  have w2 := X.h (r2 + b2) (by omega) (by omega)
  have w3 := X.h (r2 + b2 + 1) (by omega) (by omega)
  have w4 := X.z
  have v1 := (B.hl r2 (Nat.le_refl _)).1
  have v2 := HP_succ V r2
  rw [(kw_0 hkw).1] at v2
  have v3 := (B.hr (j + 1)).1
  have v4 := (B.hr 1).1
  have q1 : r2 + b2 + (j + 1) = r2 + b2 + j + 1 := rfl
  rw [q1] at v3
  rcases e1 with ⟨r1, a1, b1, A⟩ | ⟨r1, A⟩
  · have ha := A.a1
    have hb1 := A.b1
    by_cases c1 : r2 < r1
    · have z := (hD.k r2 (by rw [← A.tl r2 c1]; exact hkw)).1
      have := (A.hl r2 (by omega)).1
      omega
    by_cases c2 : r1 + b1 ≤ r2
    · obtain ⟨m, rfl⟩ : ∃ m, r2 = r1 + b1 + m := ⟨r2 - r1 - b1, by omega⟩
      have hk : kS (tk D (r1 + a1 + m)) = 1 := by rw [← A.tr m]; exact hkw
      have z := (hD.k _ hk).1
      have u1 := (A.hr m).1
      have u2 := (A.hr (m + 1 + (j + 1))).1
      have u3 := hD.p (r1 + a1 + (m + 1 + (j + 1)))
      have q2 : r1 + b1 + (m + 1 + (j + 1)) = r1 + b1 + m + 1 + (j + 1) := by omega
      rw [q2] at u2
      omega
    have hr : r2 = r1 := by omega
    subst hr
    obtain rfl : b1 = 1 := by omega
    by_cases c3 : a1 = 1 ∧ kS (tk D r2) = 1
    · have z := (hD.k r2 c3.2).1
      have := (A.hl r2 (by omega)).1
      omega
    · have kz : KP D (r2 + a1) = KP D r2 := by
        rcases (show a1 = 0 ∨ a1 = 1 by omega) with rfl | rfl
        · rfl
        · have := KP_succ D r2
          rcases kS_01 (tk D r2) with z | z
          · omega
          · exact absurd ⟨rfl, z⟩ c3
      obtain ⟨x1, x2, x3⟩ := A.hl s (by omega)
      obtain ⟨y1, y2, y3⟩ := B.hl s (by omega)
      obtain ⟨x4, x5, x6⟩ := A.hl r2 (by omega)
      obtain ⟨y4, y5, y6⟩ := B.hl r2 (by omega)
      obtain ⟨x7, x8, x9⟩ := A.hr j
      obtain ⟨y7, y8, y9⟩ := B.hr j
      have xk := X.k
      have m1 := KP_mono W (show s ≤ r2 by omega)
      have m2 := KP_mono W (show r2 ≤ r2 + b2 by omega)
      have m3 := KP_mono W (show r2 + b2 ≤ r2 + b2 + j by omega)
      have o1 : OP W (r2 + b2) ≤ OP W r2 + 1 := by
        rcases (show b2 = 0 ∨ b2 = 1 by omega) with rfl | rfl
        · exact Nat.le_add_right _ _
        · exact (st_o W r2).2
      have o2 := OP_mono D (show r2 ≤ r2 + a1 by omega)
      have := hD.o s (r2 + a1 + j) (by omega) (by omega)
      omega
  · by_cases c1 : r2 = r1
    · subst c1
      have hk : kS (tk D (r2 + 1)) = 1 := by rw [← A.t0]; exact hkw
      have z := (hD.k _ hk).1
      have z1 := HP_succ D (r2 + 1)
      rw [(kw_0 hk).1] at z1
      have u1 := (A.h (r2 + 1 + 1) (by omega)).1
      have u2 := (A.h (r2 + 1 + (j + 1)) (by omega)).1
      have u3 := hD.p (r2 + 1 + (j + 1))
      omega
    by_cases c2 : r2 = r1 + 1
    · subst c2
      have hk : kS (tk D r1) = 1 := by rw [← A.t1]; exact hkw
      have z := (hD.k _ hk).1
      have u1 := (A.h r1 (by omega)).1
      have u2 := (B.hl r1 (by omega)).1
      have u3 := X.h r1 (by omega) (by omega)
      omega
    · have hk : kS (tk D r2) = 1 := by rw [← A.t r2 c1 c2]; exact hkw
      have z := (hD.k _ hk).1
      have u1 := (A.h r2 c2).1
      omega
/-- at most 16 signs -/
theorem few_signs (hD : Dr D) (e1 : Ed D V) (e2 : Ed V W) (X : Win W s t) : OP W t ≤ OP W s + 16 := by
  rcases e2.cases' with ⟨r2, a2, b2, B⟩ | ⟨r2, B⟩
  · rcases B.pull X.le X.k with ⟨s', t', h1, h2, h3, G⟩ | ⟨rfl, h1, h2, h3⟩
    · rcases e1.cases' with ⟨r1, a1, b1, A⟩ | ⟨r1, A⟩
      · rcases A.pull h1 h2 with ⟨s'', t'', g1, g2, g3, _⟩ | ⟨rfl, g1, g2, g3⟩
        · have := hD.o _ _ g1 g2
          omega
        · exfalso
          have z := (hD.k r1 g1).1
          have z1 := (A.hl r1 (Nat.le_refl _)).1
          rcases G r1 (by omega) (by omega) with ⟨k1, k2, k3⟩ | ⟨k1, k2, k3⟩
          · have u1 := (B.hl r1 k1).1
            have u2 := X.h r1 k2 k3
            omega
          · rcases G (r1 + b1) (by omega) (by omega) with ⟨l1, l2, l3⟩ | ⟨l1, l2, l3⟩
            · have : b1 = 0 := by omega
              subst this
              have u1 := (B.hl r1 l1).1
              have u2 := X.h r1 l2 l3
              omega
            · obtain ⟨m, hm⟩ : ∃ m, r1 + b1 = r2 + a2 + m := ⟨r1 + b1 - r2 - a2, by omega⟩
              obtain ⟨n, hn⟩ : ∃ n, t + 1 = r2 + b2 + n := ⟨t + 1 - r2 - b2, by omega⟩
              have u1 := (B.hr m).1
              have u2 := (B.hr n).1
              have u3 := X.z
              have u4 := X.h (r2 + b2 + m) (by omega) (by omega)
              have u5 := right_whole hD A g1 (n := r2 + a2 + n) (by omega)
              rw [hn] at u3
              rw [hm] at u5
              omega
      · have := one_sw hD A h1 h2
        omega
    · exact kw_second hD e1.cases' B h1 X h2 h3
  · obtain ⟨s', t', ⟨h1, h2, h3, h4, h5⟩ | h⟩ := B.pull X.le X.k
    · rcases e1.cases' with ⟨r1, a1, b1, A⟩ | ⟨r1, A⟩
      · rcases A.pull h1 h2 with ⟨s'', t'', g1, g2, g3, _⟩ | ⟨rfl, g1, g2, g3⟩
        · have := hD.o _ _ g1 g2
          omega
        · exfalso
          obtain ⟨z, k1, k2⟩ := hD.k r1 g1
          have z1 := (A.hl r1 (Nat.le_refl _)).1
          have hb := A.b1
          by_cases c : r1 = r2 + 1
          · rcases (show b1 = 0 ∨ b1 = 1 by omega) with rfl | rfl
            · have u1 := (B.h r2 (by omega)).1
              have u2 := X.h r2 (by omega) (by omega)
              have u3 := (A.hl r2 (by omega)).1
              have u4 := HP_succ D r2
              rw [c] at z
              have y1 : tk D r2 = ")" := by
                have : hS (tk D r2) < 0 := by omega
                unfold hS at this
                split at this
                · cases this
                · split at this
                  · assumption
                  · cases this
              have y2 : tk W r1 = ")" := by rw [c, B.t1, ← y1, A.tl r2 (by omega)]
              have y3 : tk W (r1 + 1) = tk D (r1 + 2) := by
                rw [B.t (r1 + 1) (by omega) (by omega)]
                exact A.tr 1
              by_cases ct : t = r1 + 1
              · have := X.e
                rw [ct, y3] at this
                exact k2.1 this
              · have := X.adj r1 (by omega) (by omega) y2
                rw [y3] at this
                exact this.elim k2.1 fun h => h.elim k2.2.1 k2.2.2
            · have u1 := (B.h (r1 + 1) (by omega)).1
              have u2 := X.h (r1 + 1) (by omega) (by omega)
              have u3 := (B.h (t + 1) (by omega)).1
              have u4 := X.z
              have u5 := right_whole hD A g1 (n := t + 1) (by omega)
              omega
          · have u1 := (B.h r1 c).1
            have u2 := X.h r1 (by omega) (by omega)
            omega
      · have := one_sw hD A h1 h2
        omega
    · rw [h]
      omega
end
end K18

/-! M6: drawn words, changed at most twice: a program that is read from them fits. -/
namespace K18
open PySem PySem.Spec L2
open PyProof.Rows hiding St
/-- a change, behind which the row may be cut off -/
def Er (V W : List Str) : Prop := ∃ W', Ed V W' ∧ W <+: W'
theorem Ed.refl (V : List Str) : Ed V V := Ed.sub V [] [] [] (by decide) (by decide) |> fun h => by simpa using h
theorem Er.refl (V : List Str) : Er V V := ⟨V, Ed.refl V, List.prefix_refl _⟩
theorem Ed.er {V W : List Str} (h : Ed V W) : Er V W := ⟨W, h, List.prefix_refl _⟩
theorem Er.comp {D V W : List Str} (a : Er D V) (b : Er V W) : ∃ V' W', Ed D V' ∧ Ed V' W' ∧ W <+: W' := by
  obtain ⟨V', e1, ⟨x, rfl⟩⟩ := a
  obtain ⟨W', e2, p⟩ := b
  cases e2 with
  | sub P m m' S h1 h2 =>
    refine ⟨_, P ++ (m' ++ (S ++ x)), e1, ?_, p.trans ⟨x, by simp⟩⟩
    have := Ed.sub P m m' (S ++ x) h1 h2
    simpa using this
  | swp P y z S =>
    refine ⟨_, P ++ z :: y :: (S ++ x), e1, ?_, p.trans ⟨x, by simp⟩⟩
    have := Ed.swp P y z (S ++ x)
    simpa using this
theorem Ww_pre {W W' : List Str} (h : W <+: W') : Ww W ≤ Ww W' := by
  obtain ⟨x, rfl⟩ := h
  rw [Ww_app]
  omega
theorem wt_le (x : Str) : wt x ≤ 1 := by unfold wt; split <;> omega
theorem Ww_ed {V W : List Str} (h : Ed V W) : Ww W ≤ Ww V + 1 := by
  cases h with
  | sub P m m' S h1 h2 =>
    rw [Ww_app, Ww_app, Ww_app, Ww_app]
    have : Ww m' ≤ 1 := by
      match m', h2 with
      | [], _ => simp [Ww]
      | [x], _ => rw [Ww_cons]; have := wt_le x; simp [Ww]; omega
    omega
  | swp P y z S =>
    rw [Ww_app, Ww_app, Ww_cons, Ww_cons, Ww_cons, Ww_cons]
    omega
theorem Tx.dr {D : List Str} {w : Nat} (T : Tx D w) : Dr D := by
  refine ⟨T.p, fun n h => ?_, T.o⟩
  have lt : n < D.length := by
    by_cases c : n < D.length
    · exact c
    · rw [tk_end c] at h
      exact absurd h (by decide +kernel)
  obtain ⟨k1, k2, y, k3, k4⟩ := T.k n (tk D n) (tk_get lt) h
  refine ⟨k1, ?_, ?_⟩
  · unfold tk
    rw [List.getD_eq_getElem?_getD, k2]
    rfl
  · unfold tk
    rw [List.getD_eq_getElem?_getD, k3]
    exact k4
theorem HP_pre {W W' : List Str} (h : W <+: W') {n : Nat} (hn : n ≤ W.length) : HP W' n = HP W n ∧ OP W' n = OP W n ∧ KP W' n = KP W n := by
  obtain ⟨x, rfl⟩ := h
  exact HP_app_l hn
theorem tk_pre {W W' : List Str} (h : W <+: W') {n : Nat} (hn : n < W.length) : tk W' n = tk W n := by
  obtain ⟨x, rfl⟩ := h
  exact tk_app_l hn
theorem Win.pre {W W' : List Str} (h : W <+: W') {s t : Nat} (X : Win W s t) (ht : t < W.length) : Win W' s t := by
  have hp := fun n (hn : n ≤ W.length) => HP_pre h hn
  have le := X.le
  refine ⟨X.le, fun n h1 h2 => by rw [(hp n (by omega)).1]; exact X.h n h1 h2, by rw [(hp (t + 1) (by omega)).1]; exact X.z, ?_, by rw [tk_pre h ht]; exact X.e, fun n h1 h2 h3 => ?_⟩
  · rw [(hp s (by omega)).2.2, (hp t (by omega)).2.2]
    exact X.k
  · rw [tk_pre h (by omega)] at h3 ⊢
    exact X.adj n h1 h2 h3
theorem two_fits {D V W : List Str} {w : Nat} (T : Tx D w) (hw : w ≤ 198) (a : Er D V) (b : Er V W) : ∀ l j, prg W = .ok l j → fits l := by
  obtain ⟨V', W', e1, e2, p⟩ := a.comp b
  intro l j h
  refine prg_fits ?_ (fun j => ?_) h
  · intro p0 q c h0 hk h1 S hd hq
    have lq : q < W.length := tk_lt W (ne_e hq)
    have X : Win W (p0 + 2) q := by
      have s1 := HP_succ W p0
      have s2 := HP_succ W (p0 + 1)
      have s3 := HP_succ W q
      have sh := S.h
      rw [(kw_0 hk).1] at s1
      rw [h1, show hS "(" = 1 by decide +kernel] at s2
      rw [hq, show hS ")" = -1 by decide +kernel] at s3
      have q2 : p0 + 1 + 1 = p0 + 2 := rfl
      rw [q2] at s2
      exact ⟨Nat.le_of_lt S.lt, fun n a b => by have := S.p n a b; omega, by omega, S.k.symm, hq, S.adj⟩
    have lt := S.lt
    have f := few_signs T.dr e1 e2 (X.pre p lq)
    rw [(HP_pre p (by omega : q ≤ W.length)).2.1, (HP_pre p (by omega : p0 + 2 ≤ W.length)).2.1] at f
    show dcn c ≤ 20
    omega
  · have c1 : Cw W j ≤ Ww W := by
      have : Ww W = Cw W j + Ww (W.drop j) := by
        have e := congrArg Ww (List.take_append_drop j W)
        rw [Ww_app] at e
        exact e.symm
      omega
    have c2 := Ww_pre p
    have c3 := Ww_ed e1
    have c4 := Ww_ed e2
    have c5 := T.w
    omega
/-! the changes of the law -/
theorem er_del (W : List Str) (p : Nat) : Er W (W.take p ++ W.drop (p + 1)) := by
  have h := Ed.sub (W.take p) ((W.drop p).take 1) [] (W.drop (p + 1)) (by rw [List.length_take]; omega) (by decide)
  have e : (W.drop p).take 1 ++ W.drop (p + 1) = W.drop p := by
    have := List.take_append_drop 1 (W.drop p)
    rw [List.drop_drop] at this
    exact this
  rw [e, List.take_append_drop] at h
  exact h.er
theorem er_put (W : List Str) (p : Nat) (m : List Str) (hm : m.length ≤ 1) : Er W (W.take p ++ m ++ W.drop p) := by
  have h := Ed.sub (W.take p) [] m (W.drop p) (by decide) hm
  rw [List.nil_append, List.take_append_drop, ← List.append_assoc] at h
  exact h.er
theorem er_set (W : List Str) (p : Nat) (m : List Str) (hm : m.length ≤ 1) : Er W (W.take p ++ m ++ W.drop (p + 1)) := by
  have h := Ed.sub (W.take p) ((W.drop p).take 1) m (W.drop (p + 1)) (by rw [List.length_take]; omega) hm
  have e : (W.drop p).take 1 ++ W.drop (p + 1) = W.drop p := by
    have := List.take_append_drop 1 (W.drop p)
    rw [List.drop_drop] at this
    exact this
  rw [e, List.take_append_drop, ← List.append_assoc] at h
  exact h.er
theorem er_cut (W : List Str) (p : Nat) : Er W (W.take p) := ⟨W, Ed.refl W, List.take_prefix _ _⟩
theorem er_swp (W : List Str) (p : Nat) : Er W (W.take p ++ (W.drop (p + 1)).take 1 ++ (W.drop p).take 1 ++ W.drop (p + 2)) := by
  by_cases c : p + 1 < W.length
  · obtain ⟨y, z, hy, hz, e⟩ := two_at c
    have h := Ed.swp (W.take p) y z (W.drop (p + 2))
    rw [← e] at h
    have e2 : W.drop (p + 1) = z :: W.drop (p + 2) := by
      rw [List.drop_eq_getElem_cons c]
      rw [List.getElem?_eq_getElem c] at hz
      cases hz
      rfl
    have e1 : W.drop p = y :: z :: W.drop (p + 2) := by
      rw [List.drop_eq_getElem_cons (by omega), e2]
      rw [List.getElem?_eq_getElem (by omega)] at hy
      cases hy
      rfl
    rw [e1, e2]
    have q : W.take p ++ (z :: W.drop (p + 2)).take 1 ++ (y :: z :: W.drop (p + 2)).take 1 ++ W.drop (p + 2) = W.take p ++ z :: y :: W.drop (p + 2) := by simp
    rw [q]
    exact h.er
  · have e1 : W.drop (p + 1) = [] := List.drop_eq_nil_of_le (by omega)
    have e2 : W.drop (p + 2) = [] := List.drop_eq_nil_of_le (by omega)
    have e3 : (W.drop p).take 1 = W.drop p := List.take_of_length_le (by rw [List.length_drop]; omega)
    rw [e1, e2, e3, List.take_nil, List.append_nil, List.append_nil, List.take_append_drop]
    exact Er.refl W
end K18

/-! W4: how conditions are said: rows of words -/
namespace K18
open PySem PySem.Spec L2
open PyProof.Rows hiding St
theorem CP.mark {l : List Str} {g : Int} {o w : Nat} (A : CP l g o w) (hl : l ≠ []) (hg : 0 ≤ g) {m : Str} (hm : m = "&&" ∨ m = "||") : CP (l ++ [m]) g (o + 1) (w + 1) := by
  have d : hS m = 0 ∧ oS m = 1 ∧ kS m = 0 ∧ wt m = 1 := by rcases hm with rfl | rfl <;> decide +kernel
  have z := A.app (b := [m]) (g2 := 0) (o2 := 1) (w2 := 1) (by rw [Kk_cons, d.2.2.1]; rfl) (by rw [Hh_cons, d.1]; rfl) (fun n => ?_) (by rw [Oo_cons, d.2.1]; simp [Oo]) (by rw [Ww_cons, d.2.2.2]; simp [Ww]) (fun x hx => ?_) fun e => absurd e hl
  · rw [Int.add_zero] at z
    exact z
  · cases n with
    | zero => simpa [Hh] using hg
    | succ n => rw [List.take_succ_cons, List.take_nil, Hh_cons, d.1]; simpa [Hh] using hg
  · rw [List.mem_singleton.mp hx]
    rcases hm with rfl | rfl
    · exact .amp
    · exact .bar
theorem CP.opn {l : List Str} {o w : Nat} (A : CP l 0 o w) : CP (l ++ [("(" : Str)]) 1 o w := by
  have d : hS "(" = 1 ∧ oS "(" = 0 ∧ kS "(" = 0 ∧ wt "(" = 0 := by decide +kernel
  have z := A.app (b := [("(" : Str)]) (g2 := 1) (o2 := 0) (w2 := 0) (by rw [Kk_cons, d.2.2.1]; rfl) (by rw [Hh_cons, d.1]; rfl) (fun n => ?_) (by rw [Oo_cons, d.2.1]; simp [Oo]) (by rw [Ww_cons, d.2.2.2]; simp [Ww]) (fun x hx => ?_) fun _ x r e => ?_
  · exact z
  · cases n with
    | zero => simp [Hh]
    | succ n => rw [List.take_succ_cons, List.take_nil, Hh_cons, d.1]; simp [Hh]
  · rw [List.mem_singleton.mp hx]
    exact .sym 40 (by decide +kernel)
  · cases e
    unfold fstW
    decide +kernel
theorem CP.cls {l : List Str} {o w : Nat} (A : CP l 1 o w) (hl : l ≠ []) : CP (l ++ [(")" : Str)]) 0 o w := by
  have d : hS ")" = -1 ∧ oS ")" = 0 ∧ kS ")" = 0 ∧ wt ")" = 0 := by decide +kernel
  have z := A.app (b := [(")" : Str)]) (g2 := -1) (o2 := 0) (w2 := 0) (by rw [Kk_cons, d.2.2.1]; rfl) (by rw [Hh_cons, d.1]; rfl) (fun n => ?_) (by rw [Oo_cons, d.2.1]; simp [Oo]) (by rw [Ww_cons, d.2.2.2]; simp [Ww]) (fun x hx => ?_) fun e => absurd e hl
  · exact z
  · cases n with
    | zero => simp [Hh]
    | succ n => rw [List.take_succ_cons, List.take_nil, Hh_cons, d.1]; simp [Hh]
  · rw [List.mem_singleton.mp hx]
    exact .sym 41 (by decide +kernel)
theorem CP.mono {l : List Str} {g : Int} {o w o2 w2 : Nat} (A : CP l g o w) (h1 : o ≤ o2) (h2 : w ≤ w2) : CP l g o2 w2 := ⟨A.k, A.h, A.p, Nat.le_trans A.o h1, Nat.le_trans A.w h2, A.ok, A.hd⟩
theorem CT.mono {l : List Str} {o w o2 w2 : Nat} (A : CT l o w) (h1 : o ≤ o2) (h2 : w ≤ w2) : CT l o2 w2 := ⟨A.k, A.h, A.p, Nat.le_trans A.o h1, Nat.le_trans A.w h2, A.ok, A.hd⟩
theorem CT.ne {l : List Str} {o w : Nat} (A : CT l o w) : l ≠ [] := fun z => by
  obtain ⟨x, r, e, _⟩ := A.hd
  rw [z] at e
  cases e
theorem CT.neg {l : List Str} {o w : Nat} (A : CT l o w) : CT ([("!" : Str)] ++ l) (o + 1) (w + 1) := by
  have d : hS "!" = 0 ∧ oS "!" = 1 ∧ kS "!" = 0 ∧ wt "!" = 1 := by decide +kernel
  show CT (("!" : Str) :: l) (o + 1) (w + 1)
  refine ⟨by rw [Kk_cons, d.2.2.1, A.k], by rw [Hh_cons, d.1, A.h]; rfl, fun n => ?_, by rw [Oo_cons, d.2.1]; have := A.o; omega, by rw [Ww_cons, d.2.2.2]; have := A.w; omega, fun x hx => ?_, ⟨"!", l, rfl, by unfold fstW; decide +kernel⟩⟩
  · cases n with
    | zero => exact Int.le_refl _
    | succ n => rw [List.take_succ_cons, Hh_cons, d.1]; have := A.p n; omega
  · rcases List.mem_cons.mp hx with rfl | hx
    · exact .sym 33 (by decide +kernel)
    · exact A.ok x hx
theorem CT.par {l : List Str} {o w : Nat} (A : CT l o w) : CT ([("(" : Str)] ++ l ++ [(")" : Str)]) o w := by
  have z1 := (CP.nil.opn.app0 (by decide) A.cp).cls (by simp)
  have e : ([] ++ [("(" : Str)] ++ l ++ [(")" : Str)]) = [("(" : Str)] ++ l ++ [(")" : Str)] := by simp
  rw [e, Nat.zero_add, Nat.zero_add] at z1
  exact z1.ct (by simp)
theorem CT.name {x : Str} (h : GN x) : CT [x] 0 1 ∧ CT [x, "(", ")"] 0 1 := by
  obtain ⟨h1, h2, h3⟩ := nm_cnt h.2
  have hw : wt x = 1 := if_pos (.inl h.2)
  have ne : ∀ y : Str, isNm y = false → x ≠ y := fun y hy z => by rw [z] at h; rw [h.2] at hy; cases hy
  have hf : fstW x := ⟨ne _ (by decide +kernel), ne _ (by decide +kernel), ne _ (by decide +kernel)⟩
  have d : hS "(" = 1 ∧ oS "(" = 0 ∧ kS "(" = 0 ∧ wt "(" = 0 := by decide +kernel
  have d2 : hS ")" = -1 ∧ oS ")" = 0 ∧ kS ")" = 0 ∧ wt ")" = 0 := by decide +kernel
  refine ⟨⟨by rw [Kk_cons, h3]; rfl, by rw [Hh_cons, h1]; rfl, fun n => ?_, by rw [Oo_cons, h2]; exact Nat.le_refl _, by rw [Ww_cons, hw]; exact Nat.le_refl _, fun y hy => by rw [List.mem_singleton.mp hy]; exact h.1, ⟨x, [], rfl, hf⟩⟩,
    ⟨by rw [Kk_cons, Kk_cons, Kk_cons, h3, d.2.2.1, d2.2.2.1]; rfl, by rw [Hh_cons, Hh_cons, Hh_cons, h1, d.1, d2.1]; rfl, fun n => ?_, by rw [Oo_cons, Oo_cons, Oo_cons, h2, d.2.1, d2.2.1]; exact Nat.le_refl _, by rw [Ww_cons, Ww_cons, Ww_cons, hw, d.2.2.2, d2.2.2.2]; exact Nat.le_refl _, fun y hy => ?_, ⟨x, _, rfl, hf⟩⟩⟩
  · match n with
    | 0 => exact Int.le_refl _
    | n + 1 => rw [List.take_succ_cons, List.take_nil, Hh_cons, h1]; exact Int.le_refl _
  · match n with
    | 0 => exact Int.le_refl _
    | 1 => rw [List.take_succ_cons, List.take_zero, Hh_cons, h1]; exact Int.le_refl _
    | 2 => rw [List.take_succ_cons, List.take_succ_cons, List.take_zero, Hh_cons, Hh_cons, h1, d.1]; decide
    | n + 3 => rw [List.take_succ_cons, List.take_succ_cons, List.take_succ_cons, List.take_nil, Hh_cons, Hh_cons, Hh_cons, h1, d.1, d2.1]; decide
  · simp only [List.mem_cons, List.not_mem_nil, or_false] at hy
    rcases hy with rfl | rfl | rfl
    · exact h.1
    · exact .sym 40 (by decide +kernel)
    · exact .sym 41 (by decide +kernel)
mutual
theorem lf_pos {nms : List Str} : ∀ {c : Cn}, wfC nms c → 1 ≤ lfN c
  | .call _, _ => by rw [lfN]; omega
  | .flag _, _ => by rw [lfN]; omega
  | .neg c, h => by rw [wfC] at h; rw [lfN]; exact lf_pos h
  | .chn _ cs, h => by rw [wfC] at h; rw [lfN]; have := lfs_len h.2; have := h.1; omega
theorem lfs_len {nms : List Str} : ∀ {cs : List Cn}, wfCs nms cs → cs.length ≤ lfNs cs
  | [], _ => by simp [lfNs]
  | c :: r, h => by rw [wfCs] at h; have := lf_pos h.1; have := lfs_len h.2; rw [lfNs, List.length_cons]; omega
end
theorem wfCs.mem {nms : List Str} : ∀ {cs : List Cn} {c : Cn}, wfCs nms cs → c ∈ cs → wfC nms c
  | y :: r, c, h, m => by
    rw [wfCs] at h
    rcases List.mem_cons.mp m with rfl | m
    · exact h.1
    · exact wfCs.mem h.2 m
/-- words that say c -/
def Sd (c : Cn) (ws : List Str) : Prop := CT ws (lfN c + ngC c - 1) (2 * lfN c + ngC c - 1) ∧ ws.length + 2 ≤ 8 * nd c
/-- a tape, a row with one number -/
structure Gs (a s sp : Addr) (H : Hp) (k : Int) : Prop where
  tp : TpS H a s
  hs : H sp = some (.lst [.int k])
  na : sp ≠ a
  ns : sp ≠ s
section
variable {a s sp lp p : Addr} {H H1 H2 : Hp} {k : Int} {ws us : List Str}
theorem Gs.step (G : Gs a s sp H k) (f : Fr [a] H H1) (t : TpS H1 a s) : Gs a s sp H1 k := ⟨t, f.oth _ _ G.hs (by simpa using G.na), G.na, G.ns⟩
theorem Gs.fr0 (G : Gs a s sp H k) (f : Fr [] H H1) : Gs a s sp H1 k := G.step (f.mono (by simp)) (G.tp.fr0 f)
theorem Gs.any {M : List Addr} (G : Gs a s sp H k) (f : Fr M H H1) (h : ∀ x ∈ [a, s, sp], x ∉ M) : Gs a s sp H1 k := ⟨G.tp.fr f (h a (by simp)) (h s (by simp)), f.oth _ _ G.hs (h sp (by simp)), G.na, G.ns⟩
theorem Gs.put (G : Gs a s sp H k) (j : Int) : Fr [a, sp] H (upd H sp (.lst [.int j])) ∧ Gs a s sp (upd H sp (.lst [.int j])) j := by
  have f : Fr [sp] H (upd H sp (.lst [.int j])) := Fr.put G.hs (List.mem_singleton.mpr rfl)
  exact ⟨f.mono (by simp), G.tp.fr f (by simpa using Ne.symm G.na) (by simpa using Ne.symm G.ns), upd_same, G.na, G.ns⟩
theorem Gs.ne (G : Gs a s sp H k) (hp : H p = none) : ∀ x ∈ [a, s, sp], x ∉ [p] := by
  have h1 := G.tp.nea hp
  have h2 : p ≠ sp := fun z => by rw [z, G.hs] at hp; cases hp
  intro x hx
  simp only [List.mem_cons, List.not_mem_nil, or_false] at hx ⊢
  rcases hx with rfl | rfl | rfl
  · exact Ne.symm h1.1
  · exact Ne.symm h1.2
  · exact Ne.symm h2
/-- words under way in a list of our own -/
structure SdP (a s sp lp : Addr) (H H' : Hp) (ws : List Str) : Prop where
  g0 : ∃ k, Gs a s sp H k
  fr : Fr [a, sp] H H'
  g : ∃ k, Gs a s sp H' k
  n : H lp = none
  l : H' lp = some (.lst (ws.map V.str))
theorem SdP.nin (S : SdP a s sp lp H H1 ws) : lp ∉ [a, sp] ∧ lp ≠ a := by
  obtain ⟨k, G⟩ := S.g0
  have := G.ne S.n
  refine ⟨fun z => ?_, fun z => this a (by simp) (by rw [z]; simp)⟩
  simp only [List.mem_cons, List.not_mem_nil, or_false] at z
  rcases z with z | z
  · exact this a (by simp) (by rw [z]; simp)
  · exact this sp (by simp) (by rw [z]; simp)
theorem SdP.app (S : SdP a s sp lp H H1 ws) (x : Str) : SdP a s sp lp H (upd H1 lp (.lst (ws.map V.str ++ [.str x]))) (ws ++ [x]) := by
  obtain ⟨k, G⟩ := S.g0
  obtain ⟨j, G1⟩ := S.g
  have f : Fr [lp] H1 (upd H1 lp (.lst (ws.map V.str ++ [.str x]))) := Fr.put S.l (List.mem_singleton.mpr rfl)
  exact ⟨S.g0, S.fr.out S.n, ⟨j, G1.any f (G.ne S.n)⟩, S.n, by rw [upd_same, List.map_append]; rfl⟩
theorem SdP.step (S : SdP a s sp lp H H1 ws) (f : Fr [a, sp] H1 H2) (g : Gs a s sp H2 k) : SdP a s sp lp H H2 ws := ⟨S.g0, S.fr.trans f, ⟨k, g⟩, S.n, f.oth _ _ S.l S.nin.1⟩
theorem SdP.cat (S : SdP a s sp lp H H1 ws) (hp : H1 p = none) : SdP a s sp p H (upd H1 p (.lst (us.map V.str))) us := by
  obtain ⟨k, G⟩ := S.g0
  obtain ⟨j, G1⟩ := S.g
  have f : Fr [] H1 (upd H1 p (.lst (us.map V.str))) := Fr.new hp
  refine ⟨S.g0, S.fr.trans (f.mono (by simp)), ⟨j, G1.fr0 f⟩, ?_, upd_same⟩
  refine S.fr.none_of hp fun z => ?_
  have := G1.ne hp
  simp only [List.mem_cons, List.not_mem_nil, or_false] at z
  rcases z with z | z
  · exact this a (by simp) (by rw [z]; simp)
  · exact this sp (by simp) (by rw [z]; simp)
end
def spSd (n : Nat) : Sp := fun vs H Q _ => ∃ (a s sp : Addr) (k : Int) (v : V) (c : Cn) (ar : Str) (nms : List Str), vs = [.ref a, v, .str ar, .ref sp] ∧ Gs a s sp H k ∧ TD H v c.data ∧ wfC nms c ∧ (∀ x ∈ nms, GN x) ∧ okC n c ∧ nd c ≤ 1000 ∧
  ∀ H' l ws k', Fr [a, sp] H H' → Gs a s sp H' k' → H' l = some (.lst (ws.map V.str)) → Sd c ws → Q (.ref l) H'
abbrev N_l_said : List Str := ["_law_tape_here", "_law_condition_here", "_law_around", "_law_spare", "_law_words", "_law_mark", "_law_group", "_law_k", "_law_needed"]
theorem sc_l_said : FnScope N_l_said ["_law_tape_here", "_law_condition_here", "_law_around", "_law_spare"] (defScope s_l_said) := ⟨rfl, rfl, rfl, by decide +kernel, rfl, by decide +kernel, by decide +kernel⟩
def t_l_said (K : PySem.W.Frag) (E : XK) (spS : Sp) : TS :=
  (tSeq (tAsg (tLst tNil) (gName 4))
  (tSeq (tIfS (tTest (tOp rEq (tOp (rIxT K) (tVar 1) (tC (.int 0))) (tC (.str "call")))) (tAsg (tLst (tCons (tOp (rIxT K) (tVar 1) (tC (.int 1))) (tCons (tC (.str "(")) (tCons (tC (.str ")")) tNil)))) (gName 4)) (tIfS (tTest (tOp rEq (tOp (rIxT K) (tVar 1) (tC (.int 0))) (tC (.str "flag")))) (tAsg (tLst (tCons (tOp (rIxT K) (tVar 1) (tC (.int 1))) tNil)) (gName 4)) (tIfS (tTest (tOp rEq (tOp (rIxT K) (tVar 1) (tC (.int 0))) (tC (.str "not")))) (tAsg (tOp rCat (tLst (tCons (tC (.str "!")) tNil)) (tCal spS E (tCons (tVar 0) (tCons (tOp (rIxT K) (tVar 1) (tC (.int 1))) (tCons (tC (.str "not")) (tCons (tVar 3) tNil)))))) (gName 4)) (tSeq (tAsg (tOp (rIxL K) (tLst (tCons (tC (.str "||")) (tCons (tC (.str "&&")) tNil))) (tCB rIntI (tCons (tOp rEq (tOp (rIxT K) (tVar 1) (tC (.int 0))) (tC (.str "and"))) tNil))) (gName 5))
  (tSeq (tAsg (tUn rNegI (tC (.int 1))) (gName 6))
  (tSeq (tIfS (tAnd (tTest (tOp rGtI (tOp (rIxL K) (tVar 3) (tC (.int 0))) (tC (.int 0)))) (tAnd (tTest (tOp rGtI (tCB (rLenQ K) (tCons (tOp (rIxT K) (tVar 1) (tC (.int 1))) tNil)) (tC (.int 2)))) (tTest (tOp rEq (tCal spDraw E (tCons (tVar 0) (tCons (tC (.int 2)) tNil))) (tC (.int 0)))))) (tSeq (tAsg (tOp rSubI (tOp (rIxL K) (tVar 3) (tC (.int 0))) (tC (.int 1))) (gSub (tVar 3) (tC (.int 0)) rSetL))
  (tAsg (tCal spDraw E (tCons (tVar 0) (tCons (tOp rSubI (tCB (rLenQ K) (tCons (tOp (rIxT K) (tVar 1) (tC (.int 1))) tNil)) (tC (.int 1))) tNil))) (gName 6))) tNext)
  (tFor (iRng1 (tCons (tCB (rLenQ K) (tCons (tOp (rIxT K) (tVar 1) (tC (.int 1))) tNil)) tNil)) (gName 7) (tSeq (tIfS (tTest (tOp rGtI (tVar 7) (tC (.int 0)))) (tDrop (tBM K "list" rAppend (tVar 4) (tCons (tVar 5) tNil))) tNext)
  (tSeq (tIfS (tTest (tOp rEq (tVar 7) (tVar 6))) (tDrop (tBM K "list" rAppend (tVar 4) (tCons (tC (.str "(")) tNil))) tNext)
  (tSeq (tAsg (tOp rCat (tVar 4) (tCal spS E (tCons (tVar 0) (tCons (tOp (rIxT K) (tOp (rIxT K) (tVar 1) (tC (.int 1))) (tVar 7)) (tCons (tOp (rIxT K) (tVar 1) (tC (.int 0))) (tCons (tVar 3) tNil)))))) (gName 4))
  (tIfS (tAnd (tTest (tOp rGeI (tVar 6) (tC (.int 0)))) (tTest (tOp rEq (tVar 7) (tOp rAddI (tVar 6) (tC (.int 1)))))) (tDrop (tBM K "list" rAppend (tVar 4) (tCons (tC (.str ")")) tNil))) tNext)))))))))))
  (tSeq (tAsg (tOrV (tAndV (tOp rEq (tOp (rIxT K) (tVar 1) (tC (.int 0))) (tC (.str "or"))) (tOp rNe (tVar 2) (tC (.str "or")))) (tAndV (tOp rEq (tOp (rIxT K) (tVar 1) (tC (.int 0))) (tC (.str "and"))) (tOp rEq (tVar 2) (tC (.str "not"))))) (gName 8))
  (tSeq (tIfS (tAnd (tTest (tOp rEq (tVar 2) (tC (.str "")))) (tTest (tOp rEq (tOp (rIxT K) (tVar 1) (tC (.int 0))) (tC (.str "or"))))) (tAsg (tC (.bl false)) (gName 8)) tNext)
  (tSeq (tIfS (tAnd (tTest (tOp rGtI (tOp (rIxL K) (tVar 3) (tC (.int 0))) (tC (.int 0)))) (tAnd (tNot (tB (tVar 8))) (tTest (tOp rEq (tCal spDraw E (tCons (tVar 0) (tCons (tC (.int 6)) tNil))) (tC (.int 0)))))) (tSeq (tAsg (tOp rSubI (tOp (rIxL K) (tVar 3) (tC (.int 0))) (tC (.int 1))) (gSub (tVar 3) (tC (.int 0)) rSetL))
  (tAsg (tC (.bl true)) (gName 8))) tNext)
  (tSeq (tIfS (tB (tVar 8)) (tAsg (tOp rCat (tOp rCat (tLst (tCons (tC (.str "(")) tNil)) (tVar 4)) (tLst (tCons (tC (.str ")")) tNil))) (gName 4)) tNext)
  (tRet (tVar 4))))))))
end K18

/-! W5: conditions said: the end -/
namespace K18
open PySem PySem.Spec L2
open PyProof.Rows hiding St

theorem xk_eq {K : PySem.W.Frag} {H : Hp} {σ : L2.St} {D : Ends} {tA tB : TS} {x y : Str} {xs : List V} {b : Addr} {i : Nat} (ho : σ[i]? = some (some (.ref b))) (hb : H b = some (.tup (.str y :: xs))) (h1 : y = x → tA D σ H) (h2 : ¬ y = x → tB D σ H) :
    tIfS (tTest (tOp rEq (tOp (rIxT K) (tVar i) (tC (.int 0))) (tC (.str x)))) tA tB D σ H := by
  refine ⟨_, ho, b, _, 0, _, rfl, rfl, sqT hb, at0, rfl, _, rfl, ?_⟩
  by_cases c : y = x
  · exact iteTb (str_eqT c) (h1 c)
  · exact iteFb (str_eqF c) (h2 c)
/-- the words are there: brackets, if they are wanted -/
def tsdT (K : PySem.W.Frag) (E : XK) : TS := (tSeq (tAsg (tOrV (tAndV (tOp rEq (tOp (rIxT K) (tVar 1) (tC (.int 0))) (tC (.str "or"))) (tOp rNe (tVar 2) (tC (.str "or")))) (tAndV (tOp rEq (tOp (rIxT K) (tVar 1) (tC (.int 0))) (tC (.str "and"))) (tOp rEq (tVar 2) (tC (.str "not"))))) (gName 8))
  (tSeq (tIfS (tAnd (tTest (tOp rEq (tVar 2) (tC (.str "")))) (tTest (tOp rEq (tOp (rIxT K) (tVar 1) (tC (.int 0))) (tC (.str "or"))))) (tAsg (tC (.bl false)) (gName 8)) tNext)
  (tSeq (tIfS (tAnd (tTest (tOp rGtI (tOp (rIxL K) (tVar 3) (tC (.int 0))) (tC (.int 0)))) (tAnd (tNot (tB (tVar 8))) (tTest (tOp rEq (tCal spDraw E (tCons (tVar 0) (tCons (tC (.int 6)) tNil))) (tC (.int 0)))))) (tSeq (tAsg (tOp rSubI (tOp (rIxL K) (tVar 3) (tC (.int 0))) (tC (.int 1))) (gSub (tVar 3) (tC (.int 0)) rSetL))
  (tAsg (tC (.bl true)) (gName 8))) tNext)
  (tSeq (tIfS (tB (tVar 8)) (tAsg (tOp rCat (tOp rCat (tLst (tCons (tC (.str "(")) tNil)) (tVar 4)) (tLst (tCons (tC (.str ")")) tNil))) (gName 4)) tNext)
  (tRet (tVar 4))))))
def tsdL (K : PySem.W.Frag) (E : XK) (spS : Sp) : TS := (tSeq (tIfS (tTest (tOp rGtI (tVar 7) (tC (.int 0)))) (tDrop (tBM K "list" rAppend (tVar 4) (tCons (tVar 5) tNil))) tNext)
  (tSeq (tIfS (tTest (tOp rEq (tVar 7) (tVar 6))) (tDrop (tBM K "list" rAppend (tVar 4) (tCons (tC (.str "(")) tNil))) tNext)
  (tSeq (tAsg (tOp rCat (tVar 4) (tCal spS E (tCons (tVar 0) (tCons (tOp (rIxT K) (tOp (rIxT K) (tVar 1) (tC (.int 1))) (tVar 7)) (tCons (tOp (rIxT K) (tVar 1) (tC (.int 0))) (tCons (tVar 3) tNil)))))) (gName 4))
  (tIfS (tAnd (tTest (tOp rGeI (tVar 6) (tC (.int 0)))) (tTest (tOp rEq (tVar 7) (tOp rAddI (tVar 6) (tC (.int 1)))))) (tDrop (tBM K "list" rAppend (tVar 4) (tCons (tC (.str ")")) tNil))) tNext))))
section
variable {wd : World} {K : PySem.W.Frag} {mg : Str → Option Value} {base : Heap} {w : Rw}
theorem said_t {a s sp b lp : Addr} {H H1 : Hp} {ar y : Str} {xs : List V} {c : Cn} {ws : List Str} {D : Ends} {E : XK} {p5 p6 p7 p8 : Option V} (S : SdP a s sp lp H H1 ws) (hb : H1 b = some (.tup (.str y :: xs)))
    (hc : CT ws (lfN c + ngC c - 1) (2 * lfN c + ngC c - 1)) (hl : ws.length + 4 ≤ 8 * nd c) (hn : nd c ≤ 1000) (q : ∀ H' l ws k', Fr [a, sp] H H' → Gs a s sp H' k' → H' l = some (.lst (ws.map V.str)) → Sd c ws → D.rt (.ref l) H') :
    tsdT K E D [some (.ref a), some (.ref b), some (.str ar), some (.ref sp), some (.ref lp), p5, p6, p7, p8] H1 := by
  have fin : ∀ (H2 : Hp) (nb : Bool), SdP a s sp lp H H2 ws → (tSeq (tIfS (tB (tVar 8)) (tAsg (tOp rCat (tOp rCat (tLst (tCons (tC (.str "(")) tNil)) (tVar 4)) (tLst (tCons (tC (.str ")")) tNil))) (gName 4)) tNext)
      (tRet (tVar 4))) D [some (.ref a), some (.ref b), some (.str ar), some (.ref sp), some (.ref lp), p5, p6, p7, some (.bl nb)] H2 := by
    intro H2 nb S2
    refine ⟨_, rfl, nb, rfl, iteB (fun _ => ?_) fun _ => ?_⟩
    · refine ⟨one_le, fun p1 h1 => ⟨_, rfl, ?_⟩⟩
      obtain ⟨j, G⟩ := S2.g
      have f1 : Fr [] H2 (upd H2 p1 (.lst [.str "("])) := Fr.new h1
      refine ⟨p1, lp, _, _, rfl, rfl, upd_same, f1.oth _ _ S2.l (by simp), mil (by rw [List.length_map]; show 1 + _ ≤ _; omega), fun p2 h2 => ⟨one_le, fun p3 h3 => ?_⟩⟩
      have f2 : Fr [] (upd H2 p1 (.lst [.str "("])) (upd (upd H2 p1 (.lst [.str "("])) p2 (.lst ([.str "("] ++ ws.map V.str))) := Fr.new h2
      have f3 := Fr.new (M := []) (o := .lst [.str ")"]) h3
      refine ⟨p2, p3, _, _, rfl, rfl, f3.oth _ _ upd_same (by simp), upd_same, mil (by rw [List.length_append, List.length_map]; show 1 + _ + 1 ≤ _; omega), fun p4 h4 => ?_⟩
      have S3 := (S2.step ((f1.trans f2).trans f3 |>.mono (by simp)) (G.fr0 ((f1.trans f2).trans f3))).cat (us := [("(" : Str)] ++ ws ++ [(")" : Str)]) h4
      obtain ⟨j3, G3⟩ := S3.g
      have e : ([("(" : Str)] ++ ws ++ [(")" : Str)]).map V.str = [.str "("] ++ ws.map V.str ++ [.str ")"] := by simp
      have l3 := S3.l
      have fr3 := S3.fr
      rw [e] at l3 G3 fr3
      refine ⟨_, rfl, q _ p4 ([("(" : Str)] ++ ws ++ [(")" : Str)]) j3 fr3 G3 (by rw [e]; exact l3) ⟨hc.par, ?_⟩⟩
      simp only [List.length_append, List.length_singleton]
      omega
    · obtain ⟨j, G⟩ := S2.g
      exact ⟨_, rfl, q _ lp ws j S2.fr G S2.l ⟨hc, by omega⟩⟩
  have mid : ∀ (nb : Bool), (tSeq (tIfS (tAnd (tTest (tOp rGtI (tOp (rIxL K) (tVar 3) (tC (.int 0))) (tC (.int 0)))) (tAnd (tNot (tB (tVar 8))) (tTest (tOp rEq (tCal spDraw E (tCons (tVar 0) (tCons (tC (.int 6)) tNil))) (tC (.int 0)))))) (tSeq (tAsg (tOp rSubI (tOp (rIxL K) (tVar 3) (tC (.int 0))) (tC (.int 1))) (gSub (tVar 3) (tC (.int 0)) rSetL))
      (tAsg (tC (.bl true)) (gName 8))) tNext)
      (tSeq (tIfS (tB (tVar 8)) (tAsg (tOp rCat (tOp rCat (tLst (tCons (tC (.str "(")) tNil)) (tVar 4)) (tLst (tCons (tC (.str ")")) tNil))) (gName 4)) tNext)
      (tRet (tVar 4)))) D [some (.ref a), some (.ref b), some (.str ar), some (.ref sp), some (.ref lp), p5, p6, p7, some (.bl nb)] H1 := by
    intro nb
    obtain ⟨j, G⟩ := S.g
    refine ⟨_, rfl, sp, _, 0, _, rfl, rfl, sqL G.hs, at0, _, _, rfl, rfl, _, rfl, iteB (fun _ => ?_) fun _ => iteF (fin H1 nb S)⟩
    refine ⟨_, rfl, nb, rfl, ?_⟩
    cases nb with
    | true => exact iteF (iteF (fin H1 true S))
    | false =>
      refine iteT (g_draw 6 rfl G.tp fun H2 r f2 t2 hr => ⟨rfl, _, rfl, ?_⟩)
      have G2 := G.step f2 t2
      have S2 := S.step (f2.mono (by simp)) G2
      refine iteB (fun _ => ?_) fun _ => fin H2 false S2
      refine ⟨_, rfl, sp, _, 0, _, rfl, rfl, sqL G2.hs, at0, _, _, rfl, rfl, _, rfl, sp, _, 0, 0, rfl, rfl, G2.hs, rfl, ?_⟩
      obtain ⟨f3, G3⟩ := G2.put (j - 1)
      exact fin _ true (S2.step f3 G3)
  have two : ∀ (nb : Bool), (tSeq (tIfS (tAnd (tTest (tOp rEq (tVar 2) (tC (.str "")))) (tTest (tOp rEq (tOp (rIxT K) (tVar 1) (tC (.int 0))) (tC (.str "or"))))) (tAsg (tC (.bl false)) (gName 8)) tNext)
      (tSeq (tIfS (tAnd (tTest (tOp rGtI (tOp (rIxL K) (tVar 3) (tC (.int 0))) (tC (.int 0)))) (tAnd (tNot (tB (tVar 8))) (tTest (tOp rEq (tCal spDraw E (tCons (tVar 0) (tCons (tC (.int 6)) tNil))) (tC (.int 0)))))) (tSeq (tAsg (tOp rSubI (tOp (rIxL K) (tVar 3) (tC (.int 0))) (tC (.int 1))) (gSub (tVar 3) (tC (.int 0)) rSetL))
      (tAsg (tC (.bl true)) (gName 8))) tNext)
      (tSeq (tIfS (tB (tVar 8)) (tAsg (tOp rCat (tOp rCat (tLst (tCons (tC (.str "(")) tNil)) (tVar 4)) (tLst (tCons (tC (.str ")")) tNil))) (gName 4)) tNext)
      (tRet (tVar 4))))) D [some (.ref a), some (.ref b), some (.str ar), some (.ref sp), some (.ref lp), p5, p6, p7, some (.bl nb)] H1 := by
    intro nb
    refine ⟨_, rfl, rfl, _, rfl, iteB (fun _ => ?_) fun _ => iteF (mid nb)⟩
    exact ⟨_, rfl, b, _, 0, _, rfl, rfl, sqT hb, at0, rfl, _, rfl, iteB (fun _ => mid false) fun _ => mid nb⟩
  refine ⟨_, rfl, b, _, 0, _, rfl, rfl, sqT hb, at0, rfl, _, rfl, iteB (fun _ => ?_) fun _ => ?_⟩
  · refine ⟨_, rfl, rfl, _, rfl, iteB (fun _ => two true) fun _ => ?_⟩
    refine ⟨_, rfl, b, _, 0, _, rfl, rfl, sqT hb, at0, rfl, _, rfl, iteB (fun _ => ⟨_, rfl, rfl, two _⟩) fun _ => two false⟩
  · refine ⟨_, rfl, iteF ?_⟩
    refine ⟨_, rfl, b, _, 0, _, rfl, rfl, sqT hb, at0, rfl, _, rfl, iteB (fun _ => ⟨_, rfl, rfl, two _⟩) fun _ => two false⟩
end
end K18

/-! W6: chains said -/
namespace K18
open PySem PySem.Spec L2
open PyProof.Rows hiding St

theorem CP.ne_of {l : List Str} {o w : Nat} {g : Int} (x : Str) : l ++ [x] ≠ [] := by simp
/-- while a chain is said: k operands are said, g is the first of a group of two, or -1 -/
def SdQ (a s sp b : Addr) (H : Hp) (ar mk : Str) (g : Int) (cs : List Cn) (k : Nat) : L2.St → Hp → Prop := fun σ H' => ∃ (lp : Addr) (ws : List Str) (p7 : Option V), σ = [some (.ref a), some (.ref b), some (.str ar), some (.ref sp), some (.ref lp), some (.str mk), some (.int g), p7, none] ∧ SdP a s sp lp H H' ws ∧
  CP ws (if 0 ≤ g ∧ g + 1 = (k : Int) then 1 else 0) (lfNs (cs.take k) + ngCs (cs.take k) - 1) (2 * lfNs (cs.take k) + ngCs (cs.take k) - 1) ∧ (0 < k → ws ≠ []) ∧ ws.length ≤ 8 * nds (cs.take k)
section
variable {wd : World} {K : PySem.W.Frag} {mg : Str → Option Value} {base : Heap} {w : Rw}
theorem said_l {a s sp b t : Addr} {H H1 : Hp} {ar mk : Str} {g : Int} {cs : List Cn} {zs : List V} {nms : List Str} {cb : Bool} {n m : Nat} {k : Nat} {D : Ends} {E : XK} {spS : Sp} (hS : ∀ m, n = m + 1 → spS = spSd m) (hm : n = m + 1)
    (hmk : mk = "&&" ∨ mk = "||") (hb : ∀ H', Fr [a, sp] H H' → H' b = some (.tup [.str (kW cb), .ref t]) ∧ H' t = some (.tup zs) ∧ TDs H' zs (Cn.datas cs)) (hw : wfCs nms cs) (hn : ∀ x ∈ nms, GN x) (ho : ∀ p ∈ cs, okC m p) (hz : nds cs ≤ 999)
    {σ : L2.St} {kv : V} (h : SdQ a s sp b H ar mk g cs k σ H1) (hk : k < cs.length) (hD : D.nx = SdQ a s sp b H ar mk g cs (k + 1)) (hkv : kv = .int (k : Int)) : tsdL K E spS D (σ.set 7 (some kv)) H1 := by
  subst hkv
  obtain ⟨lp, ws, p7, rfl, S, C, ne, hl⟩ := h
  have e1 : cs[k]? = some cs[k] := List.getElem?_eq_getElem hk
  generalize cs[k] = c at e1
  have mem : c ∈ cs := List.mem_of_getElem? e1
  have wc := hw.mem mem
  have lp1 := lf_pos wc
  have tk1 : cs.take (k + 1) = cs.take k ++ [c] := by rw [List.take_add_one, e1]; rfl
  have f1 : lfNs (cs.take (k + 1)) = lfNs (cs.take k) + lfN c := by rw [tk1, lfNs_app, lfNs, lfNs]; omega
  have f2 : ngCs (cs.take (k + 1)) = ngCs (cs.take k) + ngC c := by rw [tk1, ngCs_app, ngCs, ngCs]; omega
  have f3 : nds (cs.take (k + 1)) = nds (cs.take k) + nd c := by rw [tk1, nds_append, nds, nds]; omega
  have f4 : nds (cs.take (k + 1)) ≤ nds cs := by
    have := congrArg nds (List.take_append_drop (k + 1) cs)
    rw [nds_append] at this
    omega
  have f5 : 0 < k → 1 ≤ lfNs (cs.take k) := fun h0 => by
    obtain ⟨j, rfl⟩ : ∃ j, k = j + 1 := ⟨k - 1, by omega⟩
    cases cs with
    | nil => cases hk
    | cons d r =>
      rw [List.take_succ_cons, lfNs]
      rw [wfCs] at hw
      have := lf_pos hw.1
      omega
  -- the last step: a bracket, if the group ends
  have s4 : ∀ (H2 : Hp) (lp : Addr) (ws : List Str), SdP a s sp lp H H2 ws → CP ws (if 0 ≤ g ∧ (g + 1 = (k : Int) ∨ g = (k : Int)) then 1 else 0) (lfNs (cs.take (k + 1)) + ngCs (cs.take (k + 1)) - 1) (2 * lfNs (cs.take (k + 1)) + ngCs (cs.take (k + 1)) - 1) → ws ≠ [] → ws.length + 1 ≤ 8 * nds (cs.take (k + 1)) + (if g = (k : Int) then 1 else 0) →
      tIfS (tAnd (tTest (tOp rGeI (tVar 6) (tC (.int 0)))) (tTest (tOp rEq (tVar 7) (tOp rAddI (tVar 6) (tC (.int 1)))))) (tDrop (tBM K "list" rAppend (tVar 4) (tCons (tC (.str ")")) tNil))) tNext D
        [some (.ref a), some (.ref b), some (.str ar), some (.ref sp), some (.ref lp), some (.str mk), some (.int g), some (.int (k : Int)), none] H2 := by
    intro H2 lp ws S2 C2 ne2 hl2
    have out : ¬ (0 ≤ g ∧ g + 1 = (k : Int)) → D.nx [some (.ref a), some (.ref b), some (.str ar), some (.ref sp), some (.ref lp), some (.str mk), some (.int g), some (.int (k : Int)), none] H2 := by
      intro c1
      rw [hD]
      refine ⟨lp, ws, _, rfl, S2, ?_, fun _ => ne2, ?_⟩
      · by_cases c2 : 0 ≤ g ∧ g = (k : Int)
        · rw [if_pos ⟨c2.1, .inr c2.2⟩] at C2
          rw [if_pos ⟨c2.1, by omega⟩]
          exact C2
        · rw [if_neg (by omega)] at C2
          rw [if_neg (by omega)]
          exact C2
      · split at hl2 <;> omega
    refine ⟨_, rfl, _, _, rfl, rfl, _, rfl, iteB (fun c1 => ?_) fun c1 => iteF (out fun z => absurd z.1 (by have := of_decide_eq_false c1; omega))⟩
    have c1' := of_decide_eq_true c1
    refine ⟨_, rfl, _, rfl, _, _, rfl, rfl, rfl, _, rfl, iteB (fun c2 => ?_) fun c2 => out fun z => by have := of_decide_eq_false c2; exact this (congrArg V.int z.2.symm)⟩
    have c2' : (k : Int) = g + 1 := V.int.inj (of_decide_eq_true c2)
    refine ⟨_, rfl, .inl ⟨rfl, _, sqL S2.l⟩, lp, _, _, rfl, rfl, S2.l, mil2 (by rw [List.length_map]; split at hl2 <;> omega), ?_⟩
    show D.nx _ _
    rw [hD]
    rw [if_pos ⟨c1', .inl c2'.symm⟩] at C2
    refine ⟨lp, ws ++ [(")" : Str)], _, rfl, S2.app ")", ?_, fun _ => by simp, ?_⟩
    · rw [if_neg (by omega)]
      exact C2.cls ne2
    · rw [List.length_append, List.length_singleton]
      rw [if_neg (by omega)] at hl2
      exact hl2
  -- the operand
  have s3 : ∀ (H2 : Hp) (ws : List Str), SdP a s sp lp H H2 ws → CP ws (if 0 ≤ g ∧ (g + 1 = (k : Int) ∨ g = (k : Int)) then 1 else 0) (lfNs (cs.take k) + ngCs (cs.take k) - 1 + min k 1) (2 * lfNs (cs.take k) + ngCs (cs.take k) - 1 + min k 1) → ws.length ≤ 8 * nds (cs.take k) + 1 + (if g = (k : Int) then 1 else 0) →
      (tSeq (tAsg (tOp rCat (tVar 4) (tCal spS E (tCons (tVar 0) (tCons (tOp (rIxT K) (tOp (rIxT K) (tVar 1) (tC (.int 1))) (tVar 7)) (tCons (tOp (rIxT K) (tVar 1) (tC (.int 0))) (tCons (tVar 3) tNil)))))) (gName 4))
        (tIfS (tAnd (tTest (tOp rGeI (tVar 6) (tC (.int 0)))) (tTest (tOp rEq (tVar 7) (tOp rAddI (tVar 6) (tC (.int 1)))))) (tDrop (tBM K "list" rAppend (tVar 4) (tCons (tC (.str ")")) tNil))) tNext)) D
        [some (.ref a), some (.ref b), some (.str ar), some (.ref sp), some (.ref lp), some (.str mk), some (.int g), some (.int (k : Int)), none] H2 := by
    intro H2 ws S2 C2 hl2
    obtain ⟨b1, b2, b3⟩ := hb H2 S2.fr
    obtain ⟨j, G2⟩ := S2.g
    have zl : zs.length = cs.length := by rw [b3.length, Cn.datas_map, List.length_map]
    obtain ⟨v, ev⟩ : ∃ v, zs[k]? = some v := ⟨zs[k]'(by omega), List.getElem?_eq_getElem _⟩
    have tv : TD H2 v c.data := by
      obtain ⟨dd, g1, g2⟩ := b3.get ev
      rw [Cn.datas_map, List.getElem?_map, e1] at g1
      cases g1
      exact g2
    rw [hS m hm]
    have ndc : nd c ≤ 1000 := by omega
    refine ⟨_, rfl, _, rfl, _, rfl, b, _, 1, _, rfl, rfl, sqT b1, at1, _, rfl, t, zs, _, v, rfl, rfl, sqT b2, atI_nat ev, _, rfl, b, _, 0, _, rfl, rfl, sqT b1, at0, _, rfl, a, s, sp, j, v, c, kW cb, nms, rfl, G2, tv, wc, hn, ho c mem, ndc, fun H3 l us k' f3' G3 l3 sd => ?_⟩
    have S3 := S2.step f3' G3
    refine ⟨lp, l, _, _, rfl, rfl, S3.l, l3, mil (by rw [List.length_map, List.length_map]; have := sd.2; split at hl2 <;> omega), fun p hp => ?_⟩
    have S4 := S3.cat (us := ws ++ us) hp
    rw [List.map_append] at S4
    refine s4 _ p _ S4 ?_ ?_ ?_
    · have g0 : (0 : Int) ≤ (if 0 ≤ g ∧ (g + 1 = (k : Int) ∨ g = (k : Int)) then 1 else 0) := by split <;> decide
      refine (C2.app0 g0 sd.1.cp).mono ?_ ?_
      · rw [f1, f2]
        by_cases k0 : 0 < k
        · have := f5 k0
          omega
        · obtain rfl : k = 0 := by omega
          rw [List.take_zero, lfNs, ngCs]
          omega
      · rw [f1, f2]
        by_cases k0 : 0 < k
        · have := f5 k0
          omega
        · obtain rfl : k = 0 := by omega
          rw [List.take_zero, lfNs, ngCs]
          omega
    · exact fun z => sd.1.ne (List.append_eq_nil_iff.mp z).2
    · rw [List.length_append, f3]
      have := sd.2
      omega
  -- a bracket, if the group begins
  have s2 : ∀ (H2 : Hp) (ws : List Str), SdP a s sp lp H H2 ws → CP ws (if 0 ≤ g ∧ g + 1 = (k : Int) then 1 else 0) (lfNs (cs.take k) + ngCs (cs.take k) - 1 + min k 1) (2 * lfNs (cs.take k) + ngCs (cs.take k) - 1 + min k 1) → ws.length ≤ 8 * nds (cs.take k) + 1 →
      (tSeq (tIfS (tTest (tOp rEq (tVar 7) (tVar 6))) (tDrop (tBM K "list" rAppend (tVar 4) (tCons (tC (.str "(")) tNil))) tNext)
        (tSeq (tAsg (tOp rCat (tVar 4) (tCal spS E (tCons (tVar 0) (tCons (tOp (rIxT K) (tOp (rIxT K) (tVar 1) (tC (.int 1))) (tVar 7)) (tCons (tOp (rIxT K) (tVar 1) (tC (.int 0))) (tCons (tVar 3) tNil)))))) (gName 4))
        (tIfS (tAnd (tTest (tOp rGeI (tVar 6) (tC (.int 0)))) (tTest (tOp rEq (tVar 7) (tOp rAddI (tVar 6) (tC (.int 1)))))) (tDrop (tBM K "list" rAppend (tVar 4) (tCons (tC (.str ")")) tNil))) tNext))) D
        [some (.ref a), some (.ref b), some (.str ar), some (.ref sp), some (.ref lp), some (.str mk), some (.int g), some (.int (k : Int)), none] H2 := by
    intro H2 ws S2 C2 hl2
    refine ⟨_, rfl, _, rfl, rfl, _, rfl, iteB (fun c => ?_) fun c => ?_⟩
    · have c' : (k : Int) = g := V.int.inj (of_decide_eq_true c)
      refine ⟨_, rfl, .inl ⟨rfl, _, sqL S2.l⟩, lp, _, _, rfl, rfl, S2.l, mil2 (by rw [List.length_map]; omega), ?_⟩
      refine s3 _ (ws ++ [("(" : Str)]) (S2.app "(") ?_ ?_
      · rw [if_neg (by omega)] at C2
        rw [if_pos ⟨by omega, .inr c'.symm⟩]
        exact C2.opn
      · rw [List.length_append, List.length_singleton, if_pos c'.symm]
        omega
    · have c' : ¬ (k : Int) = g := fun z => of_decide_eq_false c (by rw [z])
      refine s3 _ ws S2 ?_ ?_
      · by_cases c2 : 0 ≤ g ∧ g + 1 = (k : Int)
        · rw [if_pos c2] at C2
          rw [if_pos ⟨c2.1, .inl c2.2⟩]
          exact C2
        · rw [if_neg c2] at C2
          rw [if_neg (by omega)]
          exact C2
      · rw [if_neg (by omega)]
        exact hl2
  -- the mark
  refine ⟨_, rfl, _, _, rfl, rfl, _, rfl, iteB (fun c => ?_) fun c => ?_⟩
  · have c' : (0 : Int) < (k : Int) := of_decide_eq_true c
    refine ⟨_, rfl, .inl ⟨rfl, _, sqL S.l⟩, _, rfl, lp, _, _, rfl, rfl, S.l, mil2 (by rw [List.length_map]; omega), ?_⟩
    refine s2 _ (ws ++ [mk]) (S.app mk) ?_ ?_
    · rw [show min k 1 = 1 by omega]
      exact C.mark (ne (by omega)) (by split <;> decide) hmk
    · rw [List.length_append, List.length_singleton]
      omega
  · have c' : ¬ (0 : Int) < (k : Int) := of_decide_eq_false c
    exact s2 _ ws S (C.mono (by omega) (by omega)) (by omega)
end
end K18

/-! W7: conditions said -/
namespace K18
open PySem PySem.Spec L2
open PyProof.Rows hiding St

section
variable {wd : World} {K : PySem.W.Frag} {mg : Str → Option Value} {base : Heap} {w : Rw}
theorem wfCs_all {nms : List Str} : ∀ {cs : List Cn}, wfCs nms cs → ∀ p ∈ cs, wfC nms p := fun h _ m => h.mem m
theorem pure_said {n : Nat} {spS : Sp} (hS : ∀ m, n = m + 1 → spS = spSd m) (vs : List V) (H : Hp) (Q : VK) (E : XK) (h : spSd n vs H Q E) : t_l_said K E spS { nx := fun _ H' => Q .non H', rt := Q } (start N_l_said vs) H := by
  obtain ⟨a, s, sp, k, v, c, ar, nms, rfl, G, hv, hw, hn, hc, hz, q⟩ := h
  obtain ⟨b, xs, rfl, hb, hx⟩ := cn_open hv
  refine ⟨Nat.zero_le _, fun l0 hl0 => ?_⟩
  have S0 : SdP a s sp l0 H (upd H l0 (.lst [])) [] := by
    have f : Fr [] H (upd H l0 (.lst [])) := Fr.new hl0
    exact ⟨⟨k, G⟩, f.mono (by simp), ⟨k, G.fr0 f⟩, hl0, upd_same⟩
  generalize upd H l0 (.lst []) = H1 at S0
  obtain ⟨k1, G1⟩ := S0.g
  have hb1 := S0.fr.tup _ _ hb
  have hv1 := hv.fr S0.fr
  cases c with
  | call x =>
    rw [Cn.data] at hv1
    obtain ⟨b', xs', e, hb', hx'⟩ := hv1.tup_inv
    cases e
    obtain ⟨u0, r0, rfl, t0, hx'⟩ := hx'.cons_inv
    obtain ⟨u1, r1, rfl, t1, hx'⟩ := hx'.cons_inv
    obtain rfl := t1.str_inv
    obtain rfl := t0.str_inv
    refine xk_eq rfl hb' (fun _ => ?_) fun z => absurd rfl z
    refine ⟨_, rfl, b, _, 1, _, rfl, rfl, sqT hb', at1, three_le, fun p hp => ?_⟩
    have S1 := S0.cat (us := [x, "(", ")"]) hp
    refine said_t S1 (S1.fr.tup _ _ hb) (c := .call x) ?_ (by rw [nd]; exact (show 3 + 4 ≤ 8 * 1 by decide)) hz q
    rw [lfN, ngC]
    rw [wfC] at hw
    exact (CT.name (hn x hw)).2
  | flag x =>
    rw [Cn.data] at hv1
    obtain ⟨b', xs', e, hb', hx'⟩ := hv1.tup_inv
    cases e
    obtain ⟨u0, r0, rfl, t0, hx'⟩ := hx'.cons_inv
    obtain ⟨u1, r1, rfl, t1, hx'⟩ := hx'.cons_inv
    obtain rfl := t1.str_inv
    obtain rfl := t0.str_inv
    refine xk_eq rfl hb' (fun z => absurd z (by decide +kernel)) fun _ => ?_
    refine xk_eq rfl hb' (fun _ => ?_) fun z => absurd rfl z
    refine ⟨_, rfl, b, _, 1, _, rfl, rfl, sqT hb', at1, one_le, fun p hp => ?_⟩
    have S1 := S0.cat (us := [x]) hp
    refine said_t S1 (S1.fr.tup _ _ hb) (c := .flag x) ?_ (by rw [nd]; exact (show 1 + 4 ≤ 8 * 1 by decide)) hz q
    rw [lfN, ngC]
    rw [wfC] at hw
    exact (CT.name (hn x hw)).1
  | neg d =>
    rw [Cn.data] at hv1
    obtain ⟨b', xs', e, hb', hx'⟩ := hv1.tup_inv
    cases e
    obtain ⟨u0, r0, rfl, t0, hx'⟩ := hx'.cons_inv
    obtain ⟨u1, r1, rfl, t1, hx'⟩ := hx'.cons_inv
    obtain rfl := t0.str_inv
    refine xk_eq rfl hb' (fun z => absurd z (by decide +kernel)) fun _ => ?_
    refine xk_eq rfl hb' (fun z => absurd z (by decide +kernel)) fun _ => ?_
    refine xk_eq rfl hb' (fun _ => ?_) fun z => absurd rfl z
    obtain ⟨m, em, op⟩ := hc.part (p := d) (List.mem_singleton.mpr rfl)
    rw [hS m em]
    rw [wfC] at hw
    have hz' : nd d + 1 ≤ 1000 := by rw [nd] at hz; exact hz
    refine ⟨one_le, fun p1 h1 => ?_⟩
    have S1 := S0.cat (us := [("!" : Str)]) h1
    obtain ⟨k2, G2⟩ := S1.g
    have f1 : Fr [] H1 (upd H1 p1 (.lst [.str "!"])) := Fr.new h1
    refine ⟨_, rfl, _, rfl, b, _, 1, _, rfl, rfl, sqT (f1.tup _ _ hb'), at1, _, rfl, a, s, sp, k2, u1, d, "not", nms, rfl, G2, t1.fr f1, hw, hn, op, by omega, fun H3 l us k' f3 G3 l3 sd => ?_⟩
    have S3 := S1.step f3 G3
    refine ⟨p1, l, _, _, rfl, rfl, S3.l, l3, mil (by rw [List.length_map, List.length_map]; have := sd.2; show 1 + _ ≤ _; omega), fun p hp => ?_⟩
    have S4 := S3.cat (us := [("!" : Str)] ++ us) hp
    rw [List.map_append] at S4
    have lp := lf_pos hw
    refine said_t S4 (S4.fr.tup _ _ hb) (c := .neg d) ?_ ?_ hz q
    · rw [lfN, ngC]
      exact sd.1.neg.mono (by omega) (by omega)
    · rw [List.length_append, List.length_singleton, nd]
      have := sd.2
      omega
  | chn cb cs =>
    obtain ⟨t, zs, rfl, ht, hz'⟩ := hx cb cs rfl
    have n := kW_ne cb
    refine xk_eq rfl hb1 (fun z => absurd z.symm n.1) fun _ => ?_
    refine xk_eq rfl hb1 (fun z => absurd z.symm n.2.1) fun _ => ?_
    refine xk_eq rfl hb1 (fun z => absurd z.symm n.2.2) fun _ => ?_
    rw [wfC] at hw
    rw [nd] at hz
    have zl : zs.length = cs.length := by rw [hz'.length, Cn.datas_map, List.length_map]
    have cl : cs.length ≤ 1000 := by have := nds_len cs; omega
    have hbs : ∀ H', Fr [a, sp] H H' → H' b = some (.tup [.str (kW cb), .ref t]) ∧ H' t = some (.tup zs) ∧ TDs H' zs (Cn.datas cs) := fun H' f => ⟨f.tup _ _ hb, f.tup _ _ ht, hz'.fr f⟩
    refine ⟨two_le, fun lm hlm => ⟨_, rfl, b, _, 0, _, rfl, rfl, sqT ((Fr.new (M := []) hlm).tup _ _ hb1), at0, rfl, .inr ⟨_, rfl, ?_⟩⟩⟩
    have f1 : Fr [] H1 (upd H1 lm (.lst [.str "||", .str "&&"])) := Fr.new hlm
    have S1 := S0.step (f1.mono (by simp)) (G1.fr0 f1)
    have hmk : ∃ mk : Str, atI [V.str "||", .str "&&"] (if decide (V.str (kW cb) = V.str "and") = true then (1 : Int) else 0) = some (.str mk) ∧ (mk = "&&" ∨ mk = "||") := by
      cases cb
      · exact ⟨"||", rfl, .inr rfl⟩
      · exact ⟨"&&", rfl, .inl rfl⟩
    obtain ⟨mk, em, hmk⟩ := hmk
    refine ⟨lm, _, _, _, rfl, rfl, sqL upd_same, em, ?_⟩
    generalize upd H1 lm (.lst [.str "||", .str "&&"]) = H2 at S1
    -- the loop
    have loop : ∀ (H3 : Hp) (g : Int), SdP a s sp l0 H H3 [] → g = -1 ∨ (0 ≤ g ∧ g + 1 < cs.length) →
        (tSeq (tFor (iRng1 (tCons (tCB (rLenQ K) (tCons (tOp (rIxT K) (tVar 1) (tC (.int 1))) tNil)) tNil)) (gName 7) (tsdL K E spS)) (tsdT K E)) { nx := fun _ H' => Q .non H', rt := Q }
          [some (.ref a), some (.ref b), some (.str ar), some (.ref sp), some (.ref l0), some (.str mk), some (.int g), none, none] H3 := by
      intro H3 g S3 hg
      obtain ⟨b1, b2, b3⟩ := hbs H3 S3.fr
      refine ⟨_, rfl, b, _, 1, _, rfl, rfl, sqT b1, at1, t, zs, rfl, .inr (sqT b2), _, rfl, by omega, by omega, ?_⟩
      rw [show ((zs.length : Int)).toNat = zs.length by omega]
      refine for_range (SdQ a s sp b H ar mk g cs) ⟨l0, [], none, rfl, S3, ?_, fun z => absurd z (Nat.lt_irrefl 0), Nat.zero_le _⟩ ?_ ?_
      · rw [if_neg (by omega), List.take_zero, lfNs, ngCs]
        exact CP.nil
      · intro i σ H' hi h
        have hi' : i < cs.length := by
          omega
        obtain ⟨m, em, _⟩ := hc.part (p := cs[i]'hi') (List.getElem_mem _)
        refine said_l (nms := nms) hS em hmk hbs hw.2 hn (fun p hp => ?_) (by omega) h hi' rfl (congrArg V.int (by omega))
        obtain ⟨m', em', op⟩ := hc.part (p := p) hp
        obtain rfl : m' = m := by omega
        exact op
      · rintro σ H' ⟨lp, ws, p7, rfl, S, C, ne, hl⟩
        rw [zl, List.take_length] at C hl
        have ws1 : ws ≠ [] := ne (by omega)
        refine said_t S (hbs H' S.fr).1 (c := .chn cb cs) ?_ ?_ (by rw [nd]; omega) q
        · rw [lfN, ngC]
          rw [if_neg (by omega)] at C
          exact C.ct ws1
        · rw [nd]
          omega
    have skip := loop H2 (-1) S1 (.inl rfl)
    obtain ⟨k2, G2⟩ := S1.g
    obtain ⟨b1, b2, b3⟩ := hbs H2 S1.fr
    refine ⟨_, rfl, ?_⟩
    refine ⟨_, rfl, sp, _, 0, _, rfl, rfl, sqL G2.hs, at0, _, _, rfl, rfl, _, rfl, iteB (fun _ => ?_) fun _ => iteF skip⟩
    refine ⟨_, rfl, b, _, 1, _, rfl, rfl, sqT b1, at1, t, zs, rfl, .inr (sqT b2), _, _, rfl, rfl, _, rfl, iteB (fun c2 => ?_) fun _ => iteF skip⟩
    have c2' : (2 : Int) < (zs.length : Int) := of_decide_eq_true c2
    refine g_draw 2 rfl G2.tp fun H4 r f4 t4 hr => ⟨rfl, _, rfl, ?_⟩
    have G4 := G2.step f4 t4
    have S4 := S1.step (f4.mono (by simp)) G4
    refine iteB (fun _ => ?_) fun _ => loop H4 (-1) S4 (.inl rfl)
    refine ⟨_, rfl, sp, _, 0, _, rfl, rfl, sqL G4.hs, at0, _, _, rfl, rfl, _, rfl, sp, _, 0, 0, rfl, rfl, G4.hs, rfl, ?_⟩
    obtain ⟨f5, G5⟩ := G4.put (k2 - 1)
    have S5 := S4.step f5 G5
    obtain ⟨c1, c2', c3⟩ := hbs _ S5.fr
    refine ⟨_, rfl, _, rfl, b, _, 1, _, rfl, rfl, sqT c1, at1, t, zs, rfl, .inr (sqT c2'), _, _, rfl, rfl, a, s, zs.length - 1, congrArg (fun z => [V.ref a, V.int z]) (by omega), by omega, G5.tp, fun H6 r6 f6 t6 hr6 => ?_⟩
    exact loop H6 (r6 : Int) (S5.step (f6.mono (by simp)) (G5.step f6 t6)) (.inr ⟨by omega, by omega⟩)
theorem ok_said (T : Txt K mg) : ∀ n, CalS R0 wd K mg base (n + 2) "_law_said" (spSd n) := by
  intro n
  have main : ∀ (n k : Nat) (spS : Sp), (∀ m, n = m + 1 → spS = spSd m) → 1 ≤ k → CalS R0 wd K mg base k "_law_said" spS → CalS R0 wd K mg base (k + 1) "_law_said" (spSd n) := by
    intro n k spS hS hk GS
    refine cal_s T.d_l_said T.g_l_said sc_l_said (fun _ _ _ _ _ _ us hl => match us, hl with | [_, _, _, _], _ => rfl) (fun vs H Q E h => ?_) (fun cdv A outer s H vs Q E hr h => ⟨t_l_said K E spS, ?_, pure_said hS vs H Q E h⟩)
    · obtain ⟨a, s, sp, k, v, c, ar, nms, rfl, _⟩ := h
      rfl
    · exact (pss_cons (ps_set (i := 4) sc_l_said.nd rfl (Or.inl rfl) (pe_lst pa_nil))
      (pss_cons (ps_if (pt_cmpR op_eq (pe_ix ix_tup (pv 1) pe_int (fun _ _ => rfl)) pe_str (nomark _)) (pss_one (ps_set (i := 4) sc_l_said.nd rfl (Or.inl rfl) (pe_lst (pa_cons (pe_ix ix_tup (pv 1) pe_int (fun _ _ => rfl)) (pa_cons pe_str (pa_cons pe_str pa_nil)))))) (pss_one (ps_if (pt_cmpR op_eq (pe_ix ix_tup (pv 1) pe_int (fun _ _ => rfl)) pe_str (nomark _)) (pss_one (ps_set (i := 4) sc_l_said.nd rfl (Or.inl rfl) (pe_lst (pa_cons (pe_ix ix_tup (pv 1) pe_int (fun _ _ => rfl)) pa_nil)))) (pss_one (ps_if (pt_cmpR op_eq (pe_ix ix_tup (pv 1) pe_int (fun _ _ => rfl)) pe_str (nomark _)) (pss_one (ps_set (i := 4) sc_l_said.nd rfl (Or.inl rfl) (pe_op op_cat (pe_lst (pa_cons pe_str pa_nil)) (pc GS hr (by omega) passE rfl (pa_cons (pv 0) (pa_cons (pe_ix ix_tup (pv 1) pe_int (fun _ _ => rfl)) (pa_cons pe_str (pa_cons (pv 3) pa_nil)))))))) (pss_cons (ps_set (i := 5) sc_l_said.nd rfl (Or.inl rfl) (pe_ix ix_list (pe_lst (pa_cons pe_str (pa_cons pe_str pa_nil))) (pe_callTy call_int1 rfl T.f_int (by decide +kernel) (pa_cons (pe_cmpR op_eq (pe_ix ix_tup (pv 1) pe_int (fun _ _ => rfl)) pe_str (nomark _)) pa_nil)) (fun _ _ => rfl)))
      (pss_cons (ps_set (i := 6) sc_l_said.nd rfl (Or.inl rfl) (pe_un un_neg pe_int))
      (pss_cons (ps_if (PW.pt (pw_and (pt_cmpR op_gt (pe_ix ix_list (pv 3) pe_int (fun _ _ => rfl)) pe_int (nomark _)) (pw_and (pt_cmpR op_gt (pe_callB call_len_seq rfl T.f_len (by decide +kernel) (pa_cons (pe_ix ix_tup (pv 1) pe_int (fun _ _ => rfl)) pa_nil)) pe_int (nomark _)) (pw_and1 (pt_cmpR op_eq (pc (ok_draw T) hr (by omega) passE rfl (pa_cons (pv 0) (pa_cons pe_int pa_nil))) pe_int (nomark _)))))) (pss_cons (ps_asg (pe_op op_sub (pe_ix ix_list (pv 3) pe_int (fun _ _ => rfl)) pe_int) (pg_sub (pv 3) pe_int set_list))
      (pss_one (ps_set (i := 6) sc_l_said.nd rfl (Or.inl rfl) (pc (ok_draw T) hr (by omega) passE rfl (pa_cons (pv 0) (pa_cons (pe_op op_sub (pe_callB call_len_seq rfl T.f_len (by decide +kernel) (pa_cons (pe_ix ix_tup (pv 1) pe_int (fun _ _ => rfl)) pa_nil)) pe_int) pa_nil)))))) pss_nil)
      (pss_one (ps_for ownE rfl (pi_range1 rfl T.f_range (pa_cons (pe_callB call_len_seq rfl T.f_len (by decide +kernel) (pa_cons (pe_ix ix_tup (pv 1) pe_int (fun _ _ => rfl)) pa_nil)) pa_nil)) (pg_name (i := 7) sc_l_said.nd rfl (Or.inl rfl)) (pss_cons (ps_if (pt_cmpR op_gt (pv 7) pe_int (nomark _)) (pss_one (ps_expr (pe_bm PySem.F.plainAttrs_list PySem.F.slot_list_append PySem.F.type_list_append mt_append (pv 4) (pa_cons (pv 5) pa_nil)))) pss_nil)
      (pss_cons (ps_if (pt_cmpR op_eq (pv 7) (pv 6) (nomark _)) (pss_one (ps_expr (pe_bm PySem.F.plainAttrs_list PySem.F.slot_list_append PySem.F.type_list_append mt_append (pv 4) (pa_cons pe_str pa_nil)))) pss_nil)
      (pss_cons (ps_set (i := 4) sc_l_said.nd rfl (Or.inl rfl) (pe_op op_cat (pv 4) (pc GS hr (by omega) passE rfl (pa_cons (pv 0) (pa_cons (pe_ix ix_tup (pe_ix ix_tup (pv 1) pe_int (fun _ _ => rfl)) (pv 7) (fun _ _ => rfl)) (pa_cons (pe_ix ix_tup (pv 1) pe_int (fun _ _ => rfl)) (pa_cons (pv 3) pa_nil)))))))
      (pss_one (ps_if (PW.pt (pw_and (pt_cmpR op_ge (pv 6) pe_int (nomark _)) (pw_and1 (pt_cmpR op_eq (pv 7) (pe_op op_add (pv 6) pe_int) (nomark _))))) (pss_one (ps_expr (pe_bm PySem.F.plainAttrs_list PySem.F.slot_list_append PySem.F.type_list_append mt_append (pv 4) (pa_cons pe_str pa_nil)))) pss_nil)))))))))))))))
      (pss_cons (ps_set (i := 8) sc_l_said.nd rfl (Or.inl rfl) (pe_or (pe_and (pe_cmpR op_eq (pe_ix ix_tup (pv 1) pe_int (fun _ _ => rfl)) pe_str (nomark _)) (pe_one (pe_cmpR op_ne (pv 2) pe_str (nomark _)))) (pe_one (pe_and (pe_cmpR op_eq (pe_ix ix_tup (pv 1) pe_int (fun _ _ => rfl)) pe_str (nomark _)) (pe_one (pe_cmpR op_eq (pv 2) pe_str (nomark _)))))))
      (pss_cons (ps_if (PW.pt (pw_and (pt_cmpR op_eq (pv 2) pe_str (nomark _)) (pw_and1 (pt_cmpR op_eq (pe_ix ix_tup (pv 1) pe_int (fun _ _ => rfl)) pe_str (nomark _))))) (pss_one (ps_set (i := 8) sc_l_said.nd rfl (Or.inl rfl) pe_bl)) pss_nil)
      (pss_cons (ps_if (PW.pt (pw_and (pt_cmpR op_gt (pe_ix ix_list (pv 3) pe_int (fun _ _ => rfl)) pe_int (nomark _)) (pw_and (pt_not (pt_val (pv 8))) (pw_and1 (pt_cmpR op_eq (pc (ok_draw T) hr (by omega) passE rfl (pa_cons (pv 0) (pa_cons pe_int pa_nil))) pe_int (nomark _)))))) (pss_cons (ps_asg (pe_op op_sub (pe_ix ix_list (pv 3) pe_int (fun _ _ => rfl)) pe_int) (pg_sub (pv 3) pe_int set_list))
      (pss_one (ps_set (i := 8) sc_l_said.nd rfl (Or.inl rfl) pe_bl))) pss_nil)
      (pss_cons (ps_if (pt_val (pv 8)) (pss_one (ps_set (i := 4) sc_l_said.nd rfl (Or.inl rfl) (pe_op op_cat (pe_op op_cat (pe_lst (pa_cons pe_str pa_nil)) (pv 4)) (pe_lst (pa_cons pe_str pa_nil))))) pss_nil)
      (pss_one (ps_ret (pv 4)))))))))
  induction n with
  | zero => exact main 0 1 spNo (fun _ z => by cases z) (Nat.le_refl _) (cal_no (ps := ["_law_tape_here", "_law_condition_here", "_law_around", "_law_spare"]) T.d_l_said T.g_l_said (fun _ _ _ _ _ _ us hl => match us, hl with | [_, _, _, _], _ => rfl) _)
  | succ n ih => exact main (n + 1) (n + 2) _ (fun m z => by cases z; rfl) (by omega) ih
end
end K18

/-! W8: words of statements -/
namespace K18
open PySem PySem.Spec L2
open PyProof.Rows hiding St
/-- a word that counts for nothing, and its weight -/
def Pw (x : Str) (w : Nat) : Prop := hS x = 0 ∧ oS x = 0 ∧ kS x = 0 ∧ wt x ≤ w ∧ Wok (cd x)
theorem Tx.one {x : Str} {w : Nat} (h : Pw x w) : Tx [x] w := by
  obtain ⟨h1, h2, h3, h4, h5⟩ := h
  refine Tx.plain (by rw [Hh_cons, h1]; rfl) (fun n => ?_) (fun y hy => by rw [List.mem_singleton.mp hy]; exact ⟨h3, h2⟩) (by rw [Ww_cons]; simp [Ww]; exact h4) fun y hy => by rw [List.mem_singleton.mp hy]; exact h5
  cases n with
  | zero => exact Int.le_refl _
  | succ n => rw [List.take_succ_cons, List.take_nil, Hh_cons, h1]; exact Int.le_refl _
theorem Tx.cons {x : Str} {l : List Str} {u w : Nat} (h : Pw x u) (t : Tx l w) : Tx (x :: l) (u + w) := (Tx.one h).app t
theorem pw_kw : ∀ x ∈ (["let", "for", "break", "continue", "return", "try", "{"] : List Str), Pw x 1 := by
  have a : ∀ x ∈ (["let", "for", "break", "continue", "return", "try", "{"] : List Str), hS x = 0 ∧ oS x = 0 ∧ kS x = 0 ∧ wt x ≤ 1 := by decide +kernel
  have b : ∀ x ∈ (["let", "for", "break", "continue", "return", "try", "{"] : List Str), Wok (cd x) := by
    intro x hx
    simp only [List.mem_cons, List.not_mem_nil, or_false] at hx
    rcases hx with rfl | rfl | rfl | rfl | rfl | rfl | rfl
    · exact wok_of ⟨108, by decide +kernel, by decide +kernel⟩ (by unfold AW; decide +kernel) (by decide +kernel)
    · exact wok_of ⟨102, by decide +kernel, by decide +kernel⟩ (by unfold AW; decide +kernel) (by decide +kernel)
    · exact wok_of ⟨98, by decide +kernel, by decide +kernel⟩ (by unfold AW; decide +kernel) (by decide +kernel)
    · exact wok_of ⟨99, by decide +kernel, by decide +kernel⟩ (by unfold AW; decide +kernel) (by decide +kernel)
    · exact wok_of ⟨114, by decide +kernel, by decide +kernel⟩ (by unfold AW; decide +kernel) (by decide +kernel)
    · exact wok_of ⟨116, by decide +kernel, by decide +kernel⟩ (by unfold AW; decide +kernel) (by decide +kernel)
    · exact .sym 123 (by decide +kernel)
  exact fun x hx => ⟨(a x hx).1, (a x hx).2.1, (a x hx).2.2.1, (a x hx).2.2.2, b x hx⟩
theorem pw_k0 : ∀ x ∈ (["else", "finally", "true", "false", "}", ";", ":", "="] : List Str), Pw x 0 := by
  have a : ∀ x ∈ (["else", "finally", "true", "false", "}", ";", ":", "="] : List Str), hS x = 0 ∧ oS x = 0 ∧ kS x = 0 ∧ wt x ≤ 0 := by decide +kernel
  have b : ∀ x ∈ (["else", "finally", "true", "false", "}", ";", ":", "="] : List Str), Wok (cd x) := by
    intro x hx
    simp only [List.mem_cons, List.not_mem_nil, or_false] at hx
    rcases hx with rfl | rfl | rfl | rfl | rfl | rfl | rfl | rfl
    · exact wok_of ⟨101, by decide +kernel, by decide +kernel⟩ (by unfold AW; decide +kernel) (by decide +kernel)
    · exact wok_of ⟨102, by decide +kernel, by decide +kernel⟩ (by unfold AW; decide +kernel) (by decide +kernel)
    · exact wok_of ⟨116, by decide +kernel, by decide +kernel⟩ (by unfold AW; decide +kernel) (by decide +kernel)
    · exact wok_of ⟨102, by decide +kernel, by decide +kernel⟩ (by unfold AW; decide +kernel) (by decide +kernel)
    · exact .sym 125 (by decide +kernel)
    · exact .sym 59 (by decide +kernel)
    · exact .sym 58 (by decide +kernel)
    · exact .sym 61 (by decide +kernel)
  exact fun x hx => ⟨(a x hx).1, (a x hx).2.1, (a x hx).2.2.1, (a x hx).2.2.2, b x hx⟩
theorem pw_nm {x : Str} (h : GN x) : Pw x 1 := by
  obtain ⟨a, b, c⟩ := nm_cnt h.2
  exact ⟨a, b, c, by unfold wt; split <;> omega, h.1⟩
/-- a number of at most two figures -/
theorem pw_num {k : Int} (h0 : 0 ≤ k) (h1 : k ≤ 99) : Pw (Str.ofString (toString k)) 0 := by
  obtain ⟨n, rfl⟩ : ∃ n : Nat, k = (n : Int) := ⟨k.toNat, by omega⟩
  have a : ∀ n : Nat, n < 100 → hS (Str.ofString (toString (n : Int))) = 0 ∧ oS (Str.ofString (toString (n : Int))) = 0 ∧ kS (Str.ofString (toString (n : Int))) = 0 ∧ wt (Str.ofString (toString (n : Int))) ≤ 0 := by decide +kernel
  have b : ∀ n : Nat, n < 100 → cd (Str.ofString (toString (n : Int))) = if n < 10 then [48 + n] else [48 + n / 10, 48 + n % 10] := by decide +kernel
  have d : ∀ n < 10, inS DG (48 + n) = true := by decide +kernel
  have lt : n < 100 := by omega
  obtain ⟨a1, a2, a3, a4⟩ := a n lt
  refine ⟨a1, a2, a3, a4, ?_⟩
  rw [b n lt]
  by_cases c : n < 10
  · rw [if_pos c]
    exact .num1 _ (d n c)
  · rw [if_neg c]
    exact .num2 _ _ (d _ (by omega)) (by omega) (d _ (by omega))
theorem Tx.call {x : Str} (h : GN x) : Tx [x, "(", ")", ";"] 1 := by
  obtain ⟨h1, h2, h3⟩ := nm_cnt h.2
  have d : hS "(" = 1 ∧ oS "(" = 0 ∧ kS "(" = 0 ∧ wt "(" = 0 := by decide +kernel
  have d2 : hS ")" = -1 ∧ oS ")" = 0 ∧ kS ")" = 0 ∧ wt ")" = 0 := by decide +kernel
  have d3 : hS ";" = 0 ∧ oS ";" = 0 ∧ kS ";" = 0 ∧ wt ";" = 0 := by decide +kernel
  have hw : wt x ≤ 1 := wt_le x
  refine Tx.plain (by rw [Hh_cons, Hh_cons, Hh_cons, Hh_cons, h1, d.1, d2.1, d3.1]; rfl) (fun n => ?_) (fun y hy => ?_) (by rw [Ww_cons, Ww_cons, Ww_cons, Ww_cons, d.2.2.2, d2.2.2.2, d3.2.2.2]; simp [Ww]; exact hw) fun y hy => ?_
  · match n with
    | 0 => exact Int.le_refl _
    | 1 => rw [List.take_succ_cons, List.take_zero, Hh_cons, h1]; exact Int.le_refl _
    | 2 => rw [List.take_succ_cons, List.take_succ_cons, List.take_zero, Hh_cons, Hh_cons, h1, d.1]; decide
    | 3 => rw [List.take_succ_cons, List.take_succ_cons, List.take_succ_cons, List.take_zero, Hh_cons, Hh_cons, Hh_cons, h1, d.1, d2.1]; decide
    | n + 4 => rw [List.take_succ_cons, List.take_succ_cons, List.take_succ_cons, List.take_succ_cons, List.take_nil, Hh_cons, Hh_cons, Hh_cons, Hh_cons, h1, d.1, d2.1, d3.1]; decide
  · simp only [List.mem_cons, List.not_mem_nil, or_false] at hy
    rcases hy with rfl | rfl | rfl | rfl
    · exact ⟨h3, h2⟩
    · exact ⟨d.2.2.1, d.2.1⟩
    · exact ⟨d2.2.2.1, d2.2.1⟩
    · exact ⟨d3.2.2.1, d3.2.1⟩
  · simp only [List.mem_cons, List.not_mem_nil, or_false] at hy
    rcases hy with rfl | rfl | rfl | rfl
    · exact h.1
    · exact .sym 40 (by decide +kernel)
    · exact .sym 41 (by decide +kernel)
    · exact .sym 59 (by decide +kernel)
theorem Tx.forh : Tx ["for", "(", ";", ";", ")"] 1 := by
  have a : ∀ n < 6, 0 ≤ Hh ((["for", "(", ";", ";", ")"] : List Str).take n) := by decide +kernel
  refine Tx.plain (by decide +kernel) (fun n => ?_) (by decide +kernel) (by decide +kernel) fun y hy => ?_
  · by_cases c : n < 6
    · exact a n c
    · rw [List.take_of_length_le (show (["for", "(", ";", ";", ")"] : List Str).length ≤ n by simp; omega)]
      decide +kernel
  · simp only [List.mem_cons, List.not_mem_nil, or_false] at hy
    rcases hy with rfl | rfl | rfl | rfl | rfl
    · exact (pw_kw "for" (by decide +kernel)).2.2.2.2
    · exact .sym 40 (by decide +kernel)
    · exact .sym 59 (by decide +kernel)
    · exact .sym 59 (by decide +kernel)
    · exact .sym 41 (by decide +kernel)
/-! ### an expression whose value is a list of words -/
def Say (a s : Addr) (σ : L2.St) (H : Hp) (te : TE) (R : List Str → Prop) : Prop := ∀ H2, Fr [a] H H2 → TpS H2 a s → ∀ Q : VK, (∀ H3 l us, Fr [a] H2 H3 → TpS H3 a s → H3 l = some (.lst (us.map V.str)) → R us → Q (.ref l) H3) → te σ H2 Q
section
variable {a s : Addr} {σ : L2.St} {H H1 : Hp} {te tf : TE} {R R1 R2 : List Str → Prop}
theorem tps_ne {l : Addr} {us : List Str} (t : TpS H a s) (h : H l = some (.lst (us.map V.str))) : l ≠ a := by
  obtain ⟨⟨ns, p, big, tot, h1, h2, h3⟩, ne⟩ := t
  intro z
  rw [z, h1] at h
  cases us with
  | nil => cases h
  | cons x r => cases h
theorem Say.base (h : Say a s σ H te R) (f : Fr [a] H H1) : Say a s σ H1 te R := fun H2 f2 t2 Q q => h H2 (f.trans f2) t2 Q q
theorem Say.mono (h : Say a s σ H te R) (k : ∀ us, R us → R1 us) : Say a s σ H te R1 := fun H2 f2 t2 Q q => h H2 f2 t2 Q fun H3 l us f t e r => q H3 l us f t e (k us r)
theorem Say.lst {tA : TA} {A : List Str} (h : ∀ H Q, ((A.map V.str).length ≤ sizeLine ∧ ∀ p, H p = none → Q (.ref p) (upd H p (.lst (A.map V.str)))) → tLst tA σ H Q) (hl : A.length ≤ 10) : Say a s σ H (tLst tA) (· = A) := by
  intro H2 f2 t2 Q q
  refine h H2 Q ⟨mil (by rw [List.length_map]; omega), fun p hp => ?_⟩
  have fn : Fr [] H2 (upd H2 p (.lst (A.map V.str))) := Fr.new hp
  exact q _ p A (fn.mono (by simp)) (t2.fr0 fn) upd_same rfl
theorem Say.cat (h1 : Say a s σ H te R1) (h2 : Say a s σ H tf R2) (l1 : ∀ us, R1 us → us.length ≤ 400000) (l2 : ∀ us, R2 us → us.length ≤ 400000) : Say a s σ H (tOp rCat te tf) fun ws => ∃ u v, ws = u ++ v ∧ R1 u ∧ R2 v := by
  intro H2 f2 t2 Q q
  refine h1 H2 f2 t2 _ fun H3 x us f3 t3 e3 r3 => h2 H3 (f2.trans f3) t3 _ fun H4 y vs f4 t4 e4 r4 => ?_
  have a1 := l1 us r3
  have a2 := l2 vs r4
  refine ⟨x, y, _, _, rfl, rfl, f4.oth _ _ e3 (by simpa using tps_ne t3 e3), e4, mil (by rw [List.length_map, List.length_map]; omega), fun p hp => ?_⟩
  rw [← List.map_append]
  have fn : Fr [] H4 (upd H4 p (.lst ((us ++ vs).map V.str))) := Fr.new hp
  exact q _ p (us ++ vs) ((f3.trans f4).trans (fn.mono (by simp))) (t4.fr0 fn) upd_same ⟨us, vs, rfl, r3, r4⟩
theorem Say.var {i : Nat} {l : Addr} {us : List Str} (t : TpS H a s) (ho : σ[i]? = some (some (.ref l))) (h : H l = some (.lst (us.map V.str))) : Say a s σ H (tVar i) (· = us) := by
  intro H2 f2 t2 Q q
  exact ⟨_, ho, q H2 l us Fr.refl t2 (f2.oth _ _ h (by simpa using tps_ne t h)) rfl⟩
end
/-! ### what is wanted of the words of statements -/
def TxL (n m : Nat) (ws : List Str) : Prop := Tx ws n ∧ ws.length ≤ m
theorem TxL.cat {n m k j : Nat} {u v : List Str} (a : TxL n m u) (b : TxL k j v) : TxL (n + k) (m + j) (u ++ v) := ⟨a.1.app b.1, by rw [List.length_append]; have := a.2; have := b.2; omega⟩
theorem TxL.mono {n m k j : Nat} {u : List Str} (a : TxL n m u) (h1 : n ≤ k) (h2 : m ≤ j) : TxL k j u := ⟨a.1.mono h1, Nat.le_trans a.2 h2⟩
def spSp (d : Nat) : Sp := fun vs H Q _ => ∃ (a s : Addr) (v : V) (l : List Sm) (nms : List Str), vs = [.ref a, v] ∧ TpS H a s ∧ TD H v (bdD l) ∧ drL nms l ∧ (∀ x ∈ nms, GN x) ∧ dB l ≤ d ∧ plcs l ≤ 1000 ∧
  ∀ H' r ws, Fr [a] H H' → TpS H' a s → H' r = some (.lst (ws.map V.str)) → TxL (3 * plcs l) (40 * plcs l + 1) ws → Q (.ref r) H'
def spSe (d : Nat) : Sp := fun vs H Q _ => ∃ (a s : Addr) (v : V) (t : Sm) (nms : List Str), vs = [.ref a, v] ∧ TpS H a s ∧ TD H v t.data ∧ drS nms t ∧ (∀ x ∈ nms, GN x) ∧ dpS t ≤ d ∧ plc t ≤ 1000 ∧
  ∀ H' r ws, Fr [a] H H' → TpS H' a s → H' r = some (.lst (ws.map V.str)) → TxL (3 * plc t) (40 * plc t - 4) ws → Q (.ref r) H'
def spIn (d : Nat) : Sp := fun vs H Q _ => ∃ (a s : Addr) (v : V) (bare : Bool) (l : List Sm) (nms : List Str), vs = [.ref a, v, .bl bare] ∧ TpS H a s ∧ TD H v (bdD l) ∧ drL nms l ∧ (∀ x ∈ nms, GN x) ∧ dB l ≤ d ∧ plcs l ≤ 1000 ∧
  ∀ H' r ws, Fr [a] H H' → TpS H' a s → H' r = some (.lst (ws.map V.str)) → TxL (3 * plcs l + 1) (40 * plcs l + 3) ws → Q (.ref r) H'
theorem plc_pos (t : Sm) : 1 ≤ plc t := by cases t <;> rw [plc] <;> omega
abbrev N_l_inside : List Str := ["_law_tape_here", "_law_body", "_law_bare"]
theorem sc_l_inside : FnScope N_l_inside ["_law_tape_here", "_law_body", "_law_bare"] (defScope s_l_inside) := ⟨rfl, rfl, rfl, by decide +kernel, rfl, by decide +kernel, by decide +kernel⟩
def t_l_inside (K : PySem.W.Frag) (E : XK) (spE spP : Sp) : TS :=
  (tSeq (tIfS (tAnd (tTest (tOp rEq (tCB (rLenQ K) (tCons (tVar 1) tNil)) (tC (.int 0)))) (tTest (tOp rEq (tCal spDraw E (tCons (tVar 0) (tCons (tC (.int 3)) tNil))) (tC (.int 0))))) (tRet (tLst (tCons (tC (.str ";")) tNil))) tNext)
  (tSeq (tIfS (tAnd (tTest (tOp rEq (tCB (rLenQ K) (tCons (tVar 1) tNil)) (tC (.int 1)))) (tAnd (tTest (tOp rNe (tOp (rIxT K) (tOp (rIxT K) (tVar 1) (tC (.int 0))) (tC (.int 0))) (tC (.str "let")))) (tTest (tOp rNe (tOp (rIxT K) (tOp (rIxT K) (tVar 1) (tC (.int 0))) (tC (.int 0))) (tC (.str "block")))))) (tIfS (tAnd (tOr (tB (tVar 2)) (tTest (tOp rEq (tCB (rLenQ K) (tCons (tCal spLBds E (tCons (tOp (rIxT K) (tVar 1) (tC (.int 0))) tNil)) tNil)) (tC (.int 0))))) (tTest (tOp rEq (tCal spDraw E (tCons (tVar 0) (tCons (tC (.int 2)) tNil))) (tC (.int 0))))) (tRet (tCal spE E (tCons (tVar 0) (tCons (tOp (rIxT K) (tVar 1) (tC (.int 0))) tNil)))) tNext) tNext)
  (tRet (tOp rCat (tOp rCat (tLst (tCons (tC (.str "{")) tNil)) (tCal spP E (tCons (tVar 0) (tCons (tVar 1) tNil)))) (tLst (tCons (tC (.str "}")) tNil))))))
abbrev N_l_sentence : List Str := ["_law_tape_here", "_law_statement", "_law_kind", "_law_words"]
theorem sc_l_sentence : FnScope N_l_sentence ["_law_tape_here", "_law_statement"] (defScope s_l_sentence) := ⟨rfl, rfl, rfl, by decide +kernel, rfl, by decide +kernel, by decide +kernel⟩
def t_l_sentence (K : PySem.W.Frag) (E : XK) (spS spP spI : Sp) : TS :=
  (tSeq (tAsg (tOp (rIxT K) (tVar 1) (tC (.int 0))) (gName 2))
  (tSeq (tIfS (tTest (tOp rEq (tVar 2) (tC (.str "call")))) (tRet (tLst (tCons (tOp (rIxT K) (tVar 1) (tC (.int 1))) (tCons (tC (.str "(")) (tCons (tC (.str ")")) (tCons (tC (.str ";")) tNil)))))) tNext)
  (tSeq (tIfS (tTest (tOp rEq (tVar 2) (tC (.str "let")))) (tRet (tLst (tCons (tC (.str "let")) (tCons (tOp (rIxT K) (tVar 1) (tC (.int 1))) (tCons (tC (.str "=")) (tCons (tOp (rIxL K) (tLst (tCons (tC (.str "false")) (tCons (tC (.str "true")) tNil))) (tCB rIntI (tCons (tOp (rIxT K) (tVar 1) (tC (.int 2))) tNil))) (tCons (tC (.str ";")) tNil))))))) tNext)
  (tSeq (tIfS (tTest (tOp rEq (tVar 2) (tC (.str "set")))) (tRet (tLst (tCons (tOp (rIxT K) (tVar 1) (tC (.int 1))) (tCons (tC (.str "=")) (tCons (tOp (rIxL K) (tLst (tCons (tC (.str "false")) (tCons (tC (.str "true")) tNil))) (tCB rIntI (tCons (tOp (rIxT K) (tVar 1) (tC (.int 2))) tNil))) (tCons (tC (.str ";")) tNil)))))) tNext)
  (tSeq (tIfS (tTest (tOp rEq (tVar 2) (tC (.str "block")))) (tRet (tOp rCat (tOp rCat (tLst (tCons (tC (.str "{")) tNil)) (tCal spP E (tCons (tVar 0) (tCons (tOp (rIxT K) (tVar 1) (tC (.int 1))) tNil)))) (tLst (tCons (tC (.str "}")) tNil)))) tNext)
  (tSeq (tIfS (tTest (tOp rEq (tVar 2) (tC (.str "try")))) (tSeq (tAsg (tOp rCat (tOp rCat (tLst (tCons (tC (.str "try")) (tCons (tC (.str "{")) tNil))) (tCal spP E (tCons (tVar 0) (tCons (tOp (rIxT K) (tVar 1) (tC (.int 1))) tNil)))) (tLst (tCons (tC (.str "}")) (tCons (tC (.str "finally")) (tCons (tC (.str "{")) tNil))))) (gName 3))
  (tRet (tOp rCat (tOp rCat (tVar 3) (tCal spP E (tCons (tVar 0) (tCons (tOp (rIxT K) (tVar 1) (tC (.int 2))) tNil)))) (tLst (tCons (tC (.str "}")) tNil))))) tNext)
  (tSeq (tIfS (tTest (tOp rEq (tVar 2) (tC (.str "if")))) (tSeq (tAsg (tOp rCat (tOp rCat (tLst (tCons (tC (.str "if")) (tCons (tC (.str "(")) tNil))) (tCal spS E (tCons (tVar 0) (tCons (tOp (rIxT K) (tVar 1) (tC (.int 1))) (tCons (tC (.str "")) (tCons (tLst (tCons (tC (.int 6)) tNil)) tNil)))))) (tLst (tCons (tC (.str ")")) tNil))) (gName 3))
  (tSeq (tIfS (tOr (tTru K (tOp (rIxT K) (tVar 1) (tC (.int 3)))) (tTest (tOp rEq (tCal spDraw E (tCons (tVar 0) (tCons (tC (.int 4)) tNil))) (tC (.int 0))))) (tSeq (tAsg (tOp rCat (tOp rCat (tVar 3) (tCal spI E (tCons (tVar 0) (tCons (tOp (rIxT K) (tVar 1) (tC (.int 2))) (tCons (tC (.bl false)) tNil))))) (tLst (tCons (tC (.str "else")) tNil))) (gName 3))
  (tRet (tOp rCat (tVar 3) (tCal spI E (tCons (tVar 0) (tCons (tOp (rIxT K) (tVar 1) (tC (.int 3))) (tCons (tC (.bl true)) tNil))))))) tNext)
  (tRet (tOp rCat (tVar 3) (tCal spI E (tCons (tVar 0) (tCons (tOp (rIxT K) (tVar 1) (tC (.int 2))) (tCons (tC (.bl true)) tNil)))))))) tNext)
  (tSeq (tIfS (tOr (tTest (tOp rEq (tVar 2) (tC (.str "while")))) (tTest (tOp rEq (tVar 2) (tC (.str "for"))))) (tSeq (tAsg (tLst (tCons (tC (.str "for")) (tCons (tC (.str "(")) (tCons (tC (.str ";")) (tCons (tC (.str ";")) (tCons (tC (.str ")")) tNil)))))) (gName 3))
  (tSeq (tIfS (tTest (tOp rEq (tVar 2) (tC (.str "while")))) (tAsg (tOp rCat (tOp rCat (tLst (tCons (tC (.str "while")) (tCons (tC (.str "(")) tNil))) (tCal spS E (tCons (tVar 0) (tCons (tOp (rIxT K) (tVar 1) (tC (.int 2))) (tCons (tC (.str "")) (tCons (tLst (tCons (tC (.int 6)) tNil)) tNil)))))) (tLst (tCons (tC (.str ")")) tNil))) (gName 3)) tNext)
  (tSeq (tIfS (tTest (tOp rNotN (tOp (rIxT K) (tVar 1) (tC (.int 1))) (tC .non))) (tAsg (tOp rCat (tLst (tCons (tOp (rIxT K) (tVar 1) (tC (.int 1))) (tCons (tC (.str ":")) tNil))) (tVar 3)) (gName 3)) tNext)
  (tRet (tOp rCat (tVar 3) (tCal spI E (tCons (tVar 0) (tCons (tOp (rIxT K) (tVar 1) (tOp rSubI (tCB (rLenQ K) (tCons (tVar 1) tNil)) (tC (.int 1)))) (tCons (tC (.bl true)) tNil))))))))) tNext)
  (tSeq (tIfS (tTest (tOp rIsN (tOp (rIxT K) (tVar 1) (tC (.int 1))) (tC .non))) (tRet (tLst (tCons (tVar 2) (tCons (tC (.str ";")) tNil)))) tNext)
  (tRet (tLst (tCons (tVar 2) (tCons (tCB rStrA (tCons (tOp (rIxT K) (tVar 1) (tC (.int 1))) tNil)) (tCons (tC (.str ";")) tNil))))))))))))))
abbrev N_l_spoken : List Str := ["_law_tape_here", "_law_body", "_law_words", "_law_statement", "_law_k"]
theorem sc_l_spoken : FnScope N_l_spoken ["_law_tape_here", "_law_body"] (defScope s_l_spoken) := ⟨rfl, rfl, rfl, by decide +kernel, rfl, by decide +kernel, by decide +kernel⟩
def t_l_spoken (K : PySem.W.Frag) (E : XK) (spE : Sp) : TS :=
  (tSeq (tAsg (tLst tNil) (gName 2))
  (tSeq (tFor (iTup K (tVar 1)) (gName 3) (tSeq (tFor (iRng1 (tCons (tOp (rIxL K) (tLst (tCons (tC (.int 0)) (tCons (tC (.int 0)) (tCons (tC (.int 0)) (tCons (tC (.int 0)) (tCons (tC (.int 0)) (tCons (tC (.int 1)) (tCons (tC (.int 2)) tNil)))))))) (tCal spDraw E (tCons (tVar 0) (tCons (tC (.int 7)) tNil)))) tNil)) (gName 4) (tDrop (tBM K "list" rAppend (tVar 2) (tCons (tC (.str ";")) tNil))))
  (tAsg (tOp rCat (tVar 2) (tCal spE E (tCons (tVar 0) (tCons (tVar 3) tNil)))) (gName 2))))
  (tSeq (tIfS (tTest (tOp rEq (tCal spDraw E (tCons (tVar 0) (tCons (tC (.int 9)) tNil))) (tC (.int 0)))) (tDrop (tBM K "list" rAppend (tVar 2) (tCons (tC (.str ";")) tNil))) tNext)
  (tRet (tVar 2)))))
end K18

/-! W9: statements said -/
namespace K18
open PySem PySem.Spec L2
open PyProof.Rows hiding St

section
variable {a s b : Addr} {σ : L2.St} {H : Hp} {E : XK} {xs : List V} {v : V} {j : Int} {nms : List Str} {ti : TE} {K : PySem.W.Frag}
theorem say_said {c : Cn} (h0 : σ[0]? = some (some (.ref a))) (h1 : σ[1]? = some (some (.ref b))) (hb : H b = some (.tup xs)) (hj : atI xs j = some v) (tv : TD H v c.data) (dr : drC nms c) (hn : ∀ x ∈ nms, GN x) :
    Say a s σ H (tCal (spSd 20) E (tCons (tVar 0) (tCons (tOp (rIxT K) (tVar 1) (tC (.int j))) (tCons (tC (.str "")) (tCons (tLst (tCons (tC (.int 6)) tNil)) tNil))))) (Sd c) := by
  intro H2 f2 t2 Q q
  refine ⟨_, h0, _, h1, b, _, j, v, rfl, rfl, sqT (f2.tup _ _ hb), hj, one_le, fun sp hsp => ?_⟩
  have fn : Fr [] H2 (upd H2 sp (.lst [.int 6])) := Fr.new hsp
  have n := t2.nea hsp
  have := dr.okC.2
  exact ⟨a, s, sp, 6, v, c, "", nms, rfl, ⟨t2.fr0 fn, upd_same, n.1, n.2⟩, (tv.fr f2).fr fn, dr.1, hn, dr.okC.1, by omega, fun H3 l us k' f3 G3 l3 sd => q H3 l us (Fr.drop2 fn f3 hsp) G3.tp l3 sd⟩
theorem say_spoken {d : Nat} {l : List Sm} (h0 : σ[0]? = some (some (.ref a))) (h1 : σ[1]? = some (some (.ref b))) (hb : H b = some (.tup xs)) (hj : atI xs j = some v) (tv : TD H v (bdD l)) (dr : drL nms l) (hn : ∀ x ∈ nms, GN x) (hd : dB l ≤ d) (hp : plcs l ≤ 1000) :
    Say a s σ H (tCal (spSp d) E (tCons (tVar 0) (tCons (tOp (rIxT K) (tVar 1) (tC (.int j))) tNil))) (TxL (3 * plcs l) (40 * plcs l + 1)) := by
  intro H2 f2 t2 Q q
  exact ⟨_, h0, _, h1, b, _, j, v, rfl, rfl, sqT (f2.tup _ _ hb), hj, a, s, v, l, nms, rfl, t2, tv.fr f2, dr, hn, hd, hp, q⟩
theorem say_inside {d : Nat} {l : List Sm} {bare : Bool} (hti : ∀ H2 Q, H2 b = some (.tup xs) → Q (.int j) H2 → ti σ H2 Q) (h0 : σ[0]? = some (some (.ref a))) (h1 : σ[1]? = some (some (.ref b))) (hb : H b = some (.tup xs)) (hj : atI xs j = some v) (tv : TD H v (bdD l)) (dr : drL nms l) (hn : ∀ x ∈ nms, GN x) (hd : dB l ≤ d) (hp : plcs l ≤ 1000) :
    Say a s σ H (tCal (spIn d) E (tCons (tVar 0) (tCons (tOp (rIxT K) (tVar 1) ti) (tCons (tC (.bl bare)) tNil)))) (TxL (3 * plcs l + 1) (40 * plcs l + 3)) := by
  intro H2 f2 t2 Q q
  exact ⟨_, h0, _, h1, hti H2 _ (f2.tup _ _ hb) ⟨b, _, j, v, rfl, rfl, sqT (f2.tup _ _ hb), hj, a, s, v, bare, l, nms, rfl, t2, tv.fr f2, dr, hn, hd, hp, q⟩⟩
end
theorem five_le : 5 ≤ sizeLine := by decide
theorem Say.c1 {a s : Addr} {σ : L2.St} {H : Hp} (x : Str) : Say a s σ H (tLst (tCons (tC (.str x)) tNil)) (· = [x]) := Say.lst (A := [x]) (fun _ _ h => h) (show 1 ≤ 10 by decide)
theorem Say.c2 {a s : Addr} {σ : L2.St} {H : Hp} (x y : Str) : Say a s σ H (tLst (tCons (tC (.str x)) (tCons (tC (.str y)) tNil))) (· = [x, y]) := Say.lst (A := [x, y]) (fun _ _ h => h) (show 2 ≤ 10 by decide)
theorem Say.c3 {a s : Addr} {σ : L2.St} {H : Hp} (x y z : Str) : Say a s σ H (tLst (tCons (tC (.str x)) (tCons (tC (.str y)) (tCons (tC (.str z)) tNil)))) (· = [x, y, z]) := Say.lst (A := [x, y, z]) (fun _ _ h => h) (show 3 ≤ 10 by decide)
theorem nd_small {nms : List Str} {c : Cn} (h : drC nms c) : nd c ≤ 18 := h.okC.2
/-- kw ( condition ), said -/
theorem sd_head {kw : Str} {c : Cn} {nms : List Str} {us : List Str} (hk : kw = "if" ∨ kw = "while") (dr : drC nms c) (sd : Sd c us) : TxL (2 * nd c) (8 * nd c + 1) ([kw, "("] ++ us ++ [(")" : Str)]) := by
  obtain ⟨d1, d2, d3, d4⟩ := dr
  have lp := lf_pos d1
  have np := nd_parts c
  have t := Tx.cond hk sd.1 (show lfN c + ngC c - 1 ≤ 14 by omega)
  refine ⟨t.mono (by omega), ?_⟩
  rw [List.length_append, List.length_append]
  have := sd.2
  show 2 + _ + 1 ≤ _
  omega
theorem TxL.k0 {x : Str} (h : x ∈ (["else", "finally", "true", "false", "}", ";", ":", "="] : List Str)) : TxL 0 1 [x] := ⟨Tx.one (pw_k0 x h), Nat.le_refl _⟩
theorem TxL.kw {x : Str} (h : x ∈ (["let", "for", "break", "continue", "return", "try", "{"] : List Str)) : TxL 1 1 [x] := ⟨Tx.one (pw_kw x h), Nat.le_refl _⟩
theorem TxL.nm {x : Str} (h : GN x) : TxL 1 1 [x] := ⟨Tx.one (pw_nm h), Nat.le_refl _⟩
def sentW (b : Bool) : Str := if b then "true" else "false"
theorem sentW_mem (b : Bool) : sentW b ∈ (["else", "finally", "true", "false", "}", ";", ":", "="] : List Str) := by cases b <;> decide +kernel
theorem sentW_at (b : Bool) : atI [V.str "false", V.str "true"] (if b = true then (1 : Int) else 0) = some (.str (sentW b)) := by cases b <;> rfl
section
variable {wd : World} {K : PySem.W.Frag} {mg : Str → Option Value} {base : Heap} {w : Rw}
/-- the end of a loop: its label, its body -/
theorem s_loop {d n m : Nat} {a s b l : Addr} {H H3 : Hp} {D : Ends} {E : XK} {xs : List V} {u1 vf : V} {lb : Option Str} {f : List Sm} {nms us : List Str} {kw : Str} {ti : TE} {j : Int} (F : Fr [a] H H3) (T0 : TpS H a s) (hb : H b = some (.tup xs)) (hj1 : atI xs 1 = some u1)
    (hti : ∀ (σ : L2.St) H2 Q, σ[1]? = some (some (.ref b)) → H2 b = some (.tup xs) → Q (.int j) H2 → ti σ H2 Q) (hj : atI xs j = some vf) (t1 : TD H u1 (optS lb)) (hl : labO nms lb) (tf : TD H vf (bdD f)) (df : drL nms f) (hn : ∀ x ∈ nms, GN x) (hd : dB f ≤ d) (hp : plcs f ≤ 1000)
    (tp3 : TpS H3 a s) (e3 : H3 l = some (.lst (us.map V.str))) (tx : TxL n m us) (hm : m ≤ 1000) (q : ∀ H' r ws, Fr [a] H H' → TpS H' a s → H' r = some (.lst (ws.map V.str)) → TxL (n + 1 + (3 * plcs f + 1)) (m + 2 + (40 * plcs f + 3)) ws → D.rt (.ref r) H') :
    (tSeq (tIfS (tTest (tOp rNotN (tOp (rIxT K) (tVar 1) (tC (.int 1))) (tC .non))) (tAsg (tOp rCat (tLst (tCons (tOp (rIxT K) (tVar 1) (tC (.int 1))) (tCons (tC (.str ":")) tNil))) (tVar 3)) (gName 3)) tNext)
      (tRet (tOp rCat (tVar 3) (tCal (spIn d) E (tCons (tVar 0) (tCons (tOp (rIxT K) (tVar 1) ti) (tCons (tC (.bl true)) tNil))))))) D [some (.ref a), some (.ref b), some (.str kw), some (.ref l)] H3 := by
  have hb3 := F.tup _ _ hb
  have body : ∀ (H4 : Hp) (l : Addr) (us : List Str), Fr [a] H H4 → TpS H4 a s → H4 l = some (.lst (us.map V.str)) → TxL (n + 1) (m + 2) us → tRet (tOp rCat (tVar 3) (tCal (spIn d) E (tCons (tVar 0) (tCons (tOp (rIxT K) (tVar 1) ti) (tCons (tC (.bl true)) tNil))))) D [some (.ref a), some (.ref b), some (.str kw), some (.ref l)] H4 := by
    intro H4 l us F4 t4 e4 tx4
    refine ((Say.var (i := 3) t4 rfl e4).cat (say_inside (fun H2 Q h2 h => hti _ H2 Q rfl h2 h) rfl rfl (F4.tup _ _ hb) hj (tf.fr F4) df hn hd hp) (fun us e => by rw [e]; have := tx4.2; omega) (fun us e => by have := e.2; omega)) H4 Fr.refl t4 _ fun H5 l5 us5 f5 t5 e5 r5 => q H5 l5 us5 (F4.trans f5) t5 e5 ?_
    obtain ⟨u, v, rfl, rfl, r2⟩ := r5
    exact tx4.cat r2
  refine ⟨_, rfl, b, _, 1, _, rfl, rfl, sqT hb3, hj1, rfl, _, rfl, ?_⟩
  cases lb with
  | none =>
    obtain rfl := TD.non_inv t1
    exact body H3 l us F tp3 e3 (tx.mono (by omega) (by omega))
  | some x =>
    obtain rfl := TD.str_inv t1
    refine ⟨_, rfl, b, _, 1, _, rfl, rfl, sqT hb3, hj1, two_le, fun p hp => ?_⟩
    have fn : Fr [] H3 (upd H3 p (.lst [.str x, .str ":"])) := Fr.new hp
    refine ⟨_, rfl, p, l, _, _, rfl, rfl, upd_same, fn.oth _ _ e3 (by simp), mil (by rw [List.length_map]; have := tx.2; show 2 + _ ≤ _; omega), fun p2 hp2 => ?_⟩
    have e : ([V.str x, .str ":"] ++ us.map V.str) = (([x, ":"] : List Str) ++ us).map V.str := by simp
    rw [e]
    have fn2 := Fr.new (M := []) (o := .lst ((([x, ":"] : List Str) ++ us).map V.str)) hp2
    refine body _ p2 (([x, ":"] : List Str) ++ us) (F.trans ((fn.trans fn2).mono (by simp))) (tp3.fr0 (fn.trans fn2)) upd_same ?_
    exact (((TxL.nm (hn x (hl x rfl))).cat (TxL.k0 (x := ":") (by decide +kernel))).cat tx).mono (by omega) (by omega)
theorem pure_sentence {d : Nat} (vs : List V) (H : Hp) (Q : VK) (E : XK) (h : spSe d vs H Q E) : t_l_sentence K E (spSd 20) (spSp d) (spIn d) { nx := fun _ H' => Q .non H', rt := Q } (start N_l_sentence vs) H := by
  obtain ⟨a, s, v, t, nms, rfl, T0, hv, dr, hn, hd, hp, q⟩ := h
  obtain ⟨b, xs, rfl, hb, hx⟩ := sm_open hv
  refine ⟨_, rfl, b, _, 0, _, rfl, rfl, sqT hb, at0, ?_⟩
  -- a row of words that is written out
  have out : ∀ (H1 : Hp) (ws : List Str), Fr [] H H1 → TxL (3 * plc t) (40 * plc t - 4) ws → ∀ p, H1 p = none → Q (.ref p) (upd H1 p (.lst (ws.map V.str))) := fun H1 ws f tx p hp => by
    have fn : Fr [] H1 (upd H1 p (.lst (ws.map V.str))) := Fr.new hp
    exact q _ p ws ((f.trans fn).mono (by simp)) (T0.fr0 (f.trans fn)) upd_same tx
  cases t with
  | call x =>
    obtain ⟨u1, r1, rfl, t1, hx⟩ := hx.cons_inv
    obtain rfl := t1.str_inv
    rw [drS] at dr
    refine v_eq (k := 2) rfl (fun _ => ?_) fun z => absurd rfl z
    refine ⟨_, rfl, b, _, 1, _, rfl, rfl, sqT hb, at1, four_le, out H [x, "(", ")", ";"] Fr.refl ?_⟩
    rw [plc]
    exact ⟨(Tx.call (hn x dr)).mono (by decide), show 4 ≤ 40 * 1 - 4 by decide⟩
  | dcl x y =>
    obtain ⟨u1, r1, rfl, t1, hx⟩ := hx.cons_inv
    obtain ⟨u2, r2, rfl, t2, hx⟩ := hx.cons_inv
    obtain rfl := t1.str_inv
    obtain rfl : u2 = .bl y := by cases t2; rfl
    rw [drS] at dr
    refine v_eq (k := 2) rfl (fun z => absurd z (by dsimp only [Sm.k]; decide +kernel)) fun _ => ?_
    refine v_eq (k := 2) rfl (fun _ => ?_) fun z => absurd rfl z
    refine ⟨_, rfl, b, _, 1, _, rfl, rfl, sqT hb, at1, two_le, fun p hp => ?_⟩
    have fn : Fr [] H (upd H p (.lst [.str "false", .str "true"])) := Fr.new hp
    refine ⟨_, rfl, b, _, 2, _, rfl, rfl, sqT (fn.tup _ _ hb), at2, .inr ⟨_, rfl, p, _, _, _, rfl, rfl, sqL upd_same, sentW_at y, five_le, out _ ["let", x, "=", sentW y, ";"] fn ?_⟩⟩
    rw [plc]
    exact ((TxL.kw (x := "let") (by decide +kernel)).cat ((TxL.nm (hn x dr)).cat ((TxL.k0 (x := "=") (by decide +kernel)).cat ((TxL.k0 (sentW_mem y)).cat (TxL.k0 (x := ";") (by decide +kernel)))))).mono (by decide) (by decide)
  | set x y =>
    obtain ⟨u1, r1, rfl, t1, hx⟩ := hx.cons_inv
    obtain ⟨u2, r2, rfl, t2, hx⟩ := hx.cons_inv
    obtain rfl := t1.str_inv
    obtain rfl : u2 = .bl y := by cases t2; rfl
    rw [drS] at dr
    refine v_eq (k := 2) rfl (fun z => absurd z (by dsimp only [Sm.k]; decide +kernel)) fun _ => ?_
    refine v_eq (k := 2) rfl (fun z => absurd z (by dsimp only [Sm.k]; decide +kernel)) fun _ => ?_
    refine v_eq (k := 2) rfl (fun _ => ?_) fun z => absurd rfl z
    refine ⟨_, rfl, b, _, 1, _, rfl, rfl, sqT hb, at1, two_le, fun p hp => ?_⟩
    have fn : Fr [] H (upd H p (.lst [.str "false", .str "true"])) := Fr.new hp
    refine ⟨_, rfl, b, _, 2, _, rfl, rfl, sqT (fn.tup _ _ hb), at2, .inr ⟨_, rfl, p, _, _, _, rfl, rfl, sqL upd_same, sentW_at y, four_le, out _ [x, "=", sentW y, ";"] fn ?_⟩⟩
    rw [plc]
    exact ((TxL.nm (hn x dr)).cat ((TxL.k0 (x := "=") (by decide +kernel)).cat ((TxL.k0 (sentW_mem y)).cat (TxL.k0 (x := ";") (by decide +kernel))))).mono (by decide) (by decide)
  | blk f =>
    obtain ⟨u1, r1, rfl, t1, hx⟩ := hx.cons_inv
    rw [drS] at dr
    rw [dpS] at hd
    rw [plc] at hp q
    refine v_eq (k := 2) rfl (fun z => absurd z (by dsimp only [Sm.k]; decide +kernel)) fun _ => ?_
    refine v_eq (k := 2) rfl (fun z => absurd z (by dsimp only [Sm.k]; decide +kernel)) fun _ => ?_
    refine v_eq (k := 2) rfl (fun z => absurd z (by dsimp only [Sm.k]; decide +kernel)) fun _ => ?_
    refine v_eq (k := 2) rfl (fun _ => ?_) fun z => absurd rfl z
    refine (((Say.c1 "{").cat (say_spoken rfl rfl hb at1 t1 dr hn hd (by omega)) (fun us e => by rw [e]; decide) (fun us e => by have := e.2; omega)).cat (Say.c1 "}") (fun us e => ?_) (fun us e => by rw [e]; decide)) H Fr.refl T0 _ fun H3 l us f3 t3 e3 r3 => q H3 l us f3 t3 e3 ?_
    · obtain ⟨u, v, rfl, rfl, r2⟩ := e
      have := r2.2
      rw [List.length_append]
      show 1 + _ ≤ _
      omega
    · obtain ⟨u, v, rfl, ⟨u', v', rfl, rfl, r2⟩, rfl⟩ := r3
      exact (((TxL.kw (x := "{") (by decide +kernel)).cat r2).cat (TxL.k0 (x := "}") (by decide +kernel))).mono (by omega) (by omega)
  | tri f g =>
    obtain ⟨u1, r1, rfl, t1, hx⟩ := hx.cons_inv
    obtain ⟨u2, r2, rfl, t2, hx⟩ := hx.cons_inv
    rw [drS] at dr
    rw [dpS] at hd
    rw [plc] at hp q
    refine v_eq (k := 2) rfl (fun z => absurd z (by dsimp only [Sm.k]; decide +kernel)) fun _ => ?_
    refine v_eq (k := 2) rfl (fun z => absurd z (by dsimp only [Sm.k]; decide +kernel)) fun _ => ?_
    refine v_eq (k := 2) rfl (fun z => absurd z (by dsimp only [Sm.k]; decide +kernel)) fun _ => ?_
    refine v_eq (k := 2) rfl (fun z => absurd z (by dsimp only [Sm.k]; decide +kernel)) fun _ => ?_
    refine v_eq (k := 2) rfl (fun _ => ?_) fun z => absurd rfl z
    refine (((Say.c2 "try" "{").cat (say_spoken rfl rfl hb at1 t1 dr.1 hn (by omega) (by omega)) (fun us e => by rw [e]; decide) (fun us e => by have := e.2; omega)).cat (Say.c3 "}" "finally" "{") (fun us e => ?_) (fun us e => by rw [e]; decide)) H Fr.refl T0 _ fun H3 l us f3 t3 e3 r3 => ?_
    · obtain ⟨u, v, rfl, rfl, r2⟩ := e
      have := r2.2
      rw [List.length_append]
      show 2 + _ ≤ _
      omega
    have tx1 : TxL (3 * plcs f + 3) (40 * plcs f + 6) us := by
      obtain ⟨u, v, rfl, ⟨u', v', rfl, rfl, r2⟩, rfl⟩ := r3
      exact (((((TxL.kw (x := "try") (by decide +kernel)).cat (TxL.kw (x := "{") (by decide +kernel)))).cat r2).cat ((TxL.k0 (x := "}") (by decide +kernel)).cat ((TxL.k0 (x := "finally") (by decide +kernel)).cat (TxL.kw (x := "{") (by decide +kernel))))).mono (by omega) (by omega)
    refine (((Say.var (i := 3) t3 rfl e3).cat (say_spoken rfl rfl (f3.tup _ _ hb) at2 (t2.fr f3) dr.2 hn (by omega) (by omega)) (fun us e => by rw [e]; have := tx1.2; omega) (fun us e => by have := e.2; omega)).cat (Say.c1 "}") (fun us e => ?_) (fun us e => by rw [e]; decide)) H3 Fr.refl t3 _ fun H4 l4 us4 f4 t4 e4 r4 => q H4 l4 us4 (f3.trans f4) t4 e4 ?_
    · obtain ⟨u, v, rfl, rfl, r2⟩ := e
      have := r2.2
      have := tx1.2
      rw [List.length_append]
      omega
    · obtain ⟨u, v, rfl, ⟨u', v', rfl, rfl, r2⟩, rfl⟩ := r4
      exact ((tx1.cat r2).cat (TxL.k0 (x := "}") (by decide +kernel))).mono (by omega) (by omega)
  | ite c f g =>
    obtain ⟨u1, r1, rfl, t1, hx⟩ := hx.cons_inv
    obtain ⟨u2, r2, rfl, t2, hx⟩ := hx.cons_inv
    obtain ⟨u3, r3, rfl, t3, hx⟩ := hx.cons_inv
    rw [drS] at dr
    rw [dpS] at hd
    rw [plc] at hp q
    have ns := nd_small dr.1
    refine v_eq (k := 2) rfl (fun z => absurd z (by dsimp only [Sm.k]; decide +kernel)) fun _ => ?_
    refine v_eq (k := 2) rfl (fun z => absurd z (by dsimp only [Sm.k]; decide +kernel)) fun _ => ?_
    refine v_eq (k := 2) rfl (fun z => absurd z (by dsimp only [Sm.k]; decide +kernel)) fun _ => ?_
    refine v_eq (k := 2) rfl (fun z => absurd z (by dsimp only [Sm.k]; decide +kernel)) fun _ => ?_
    refine v_eq (k := 2) rfl (fun z => absurd z (by dsimp only [Sm.k]; decide +kernel)) fun _ => ?_
    refine v_eq (k := 2) rfl (fun _ => ?_) fun z => absurd rfl z
    refine (((Say.c2 "if" "(").cat (say_said rfl rfl hb at1 t1 dr.1 hn) (fun us e => by rw [e]; decide) (fun us e => by have := e.2; omega)).cat (Say.c1 ")") (fun us e => ?_) (fun us e => by rw [e]; decide)) H Fr.refl T0 _ fun H3 l us f3 tp3 e3 r3 => ?_
    · obtain ⟨u, v, rfl, rfl, r2⟩ := e
      have := r2.2
      rw [List.length_append]
      show 2 + _ ≤ _
      omega
    have tx1 : TxL (2 * nd c) (8 * nd c + 1) us := by
      obtain ⟨u, v, rfl, ⟨u', v', rfl, rfl, r2⟩, rfl⟩ := r3
      exact sd_head (.inl rfl) dr.1 r2
    -- no else
    have alone : ∀ H4, Fr [a] H3 H4 → TpS H4 a s → g = [] → tRet (tOp rCat (tVar 3) (tCal (spIn d) E (tCons (tVar 0) (tCons (tOp (rIxT K) (tVar 1) (tC (.int 2))) (tCons (tC (.bl true)) tNil))))) { nx := fun _ H' => Q .non H', rt := Q } [some (.ref a), some (.ref b), some (.str "if"), some (.ref l)] H4 := by
      intro H4 f4 t4 _
      refine ((Say.var (i := 3) tp3 rfl e3).cat (say_inside (fun _ _ _ h => h) rfl rfl (f3.tup _ _ hb) at2 (t2.fr f3) dr.2.1 hn (by omega) (by omega)) (fun us e => by rw [e]; have := tx1.2; omega) (fun us e => by have := e.2; omega)) H4 f4 t4 _ fun H5 l5 us5 f5 t5 e5 r5 => q H5 l5 us5 (f3.trans (f4.trans f5)) t5 e5 ?_
      obtain ⟨u, v, rfl, rfl, r2⟩ := r5
      exact (tx1.cat r2).mono (by omega) (by omega)
    have both : ∀ H4, Fr [a] H3 H4 → TpS H4 a s → tSeq (tAsg (tOp rCat (tOp rCat (tVar 3) (tCal (spIn d) E (tCons (tVar 0) (tCons (tOp (rIxT K) (tVar 1) (tC (.int 2))) (tCons (tC (.bl false)) tNil))))) (tLst (tCons (tC (.str "else")) tNil))) (gName 3))
        (tRet (tOp rCat (tVar 3) (tCal (spIn d) E (tCons (tVar 0) (tCons (tOp (rIxT K) (tVar 1) (tC (.int 3))) (tCons (tC (.bl true)) tNil)))))) { nx := fun _ H' => Q .non H', rt := Q } [some (.ref a), some (.ref b), some (.str "if"), some (.ref l)] H4 := by
      intro H4 f4 t4
      refine (((Say.var (i := 3) tp3 rfl e3).cat (say_inside (fun _ _ _ h => h) rfl rfl (f3.tup _ _ hb) at2 (t2.fr f3) dr.2.1 hn (by omega) (by omega)) (fun us e => by rw [e]; have := tx1.2; omega) (fun us e => by have := e.2; omega)).cat (Say.c1 "else") (fun us e => ?_) (fun us e => by rw [e]; decide)) H4 f4 t4 _ fun H5 l5 us5 f5 t5 e5 r5 => ?_
      · obtain ⟨u, v, rfl, rfl, r2⟩ := e
        have := r2.2
        have := tx1.2
        rw [List.length_append]
        omega
      have tx2 : TxL (2 * nd c + 3 * plcs f + 1) (8 * nd c + 40 * plcs f + 5) us5 := by
        obtain ⟨u, v, rfl, ⟨u', v', rfl, rfl, r2⟩, rfl⟩ := r5
        exact ((tx1.cat r2).cat (TxL.k0 (x := "else") (by decide +kernel))).mono (by omega) (by omega)
      have F := f3.trans (f4.trans f5)
      refine ((Say.var (i := 3) t5 rfl e5).cat (say_inside (fun _ _ _ h => h) rfl rfl (F.tup _ _ hb) at3 (t3.fr F) dr.2.2 hn (by omega) (by omega)) (fun us e => by rw [e]; have := tx2.2; omega) (fun us e => by have := e.2; omega)) H5 Fr.refl t5 _ fun H6 l6 us6 f6 t6 e6 r6 => q H6 l6 us6 (F.trans f6) t6 e6 ?_
      obtain ⟨u, v, rfl, rfl, r2⟩ := r6
      exact (tx2.cat r2).mono (by omega) (by omega)
    obtain ⟨g3, y3, rfl, hg3, hy3⟩ := (t3.fr f3).tup_inv
    refine ⟨_, rfl, b, _, 3, _, rfl, rfl, sqT (f3.tup _ _ hb), at3, _, .inr (.inl ⟨_, sqT hg3, rfl⟩), iteB (fun _ => iteT (both H3 Fr.refl tp3)) fun c1 => ?_⟩
    have g0 : g = [] := by
      cases g with
      | nil => rfl
      | cons z r =>
        exfalso
        have l := hy3.length
        rw [Sm.datas, List.length_cons] at l
        cases y3 with
        | nil => cases l
        | cons _ _ => cases c1
    exact g_draw 4 rfl tp3 fun H4 r f4 t4 hr => ⟨rfl, _, rfl, iteB (fun _ => both H4 f4 t4) fun _ => alone H4 f4 t4 g0⟩
  | whl lb c f =>
    obtain ⟨u1, r1, rfl, t1, hx⟩ := hx.cons_inv
    obtain ⟨u2, r2, rfl, t2, hx⟩ := hx.cons_inv
    obtain ⟨u3, r3, rfl, t3, hx⟩ := hx.cons_inv
    have er := hx.nil_inv
    subst er
    rw [drS] at dr
    rw [dpS] at hd
    rw [plc] at hp q
    have ns := nd_small dr.2.1
    repeat refine v_eq (k := 2) rfl (fun z => absurd z (by dsimp only [Sm.k]; decide +kernel)) fun _ => ?_
    refine v_eq2 (k := 2) rfl (fun _ => ?_) fun z => absurd (.inl rfl) z
    refine ⟨five_le, fun p0 hp0 => ?_⟩
    have f0 : Fr [] H (upd H p0 (.lst [.str "for", .str "(", .str ";", .str ";", .str ")"])) := Fr.new hp0
    generalize upd H p0 (.lst [.str "for", .str "(", .str ";", .str ";", .str ")"]) = H0 at f0
    have hb0 := f0.tup _ _ hb
    refine v_eq (k := 2) rfl (fun _ => ?_) fun z => absurd rfl z
    refine (((Say.c2 "while" "(").cat (say_said rfl rfl hb0 at2 (t2.fr f0) dr.2.1 hn) (fun us e => by rw [e]; decide) (fun us e => by have := e.2; omega)).cat (Say.c1 ")") (fun us e => ?_) (fun us e => by rw [e]; decide)) H0 Fr.refl (T0.fr0 f0) _ fun H3 l us f3 tp3 e3 r3 => ?_
    · obtain ⟨u, v, rfl, rfl, r2⟩ := e
      have := r2.2
      rw [List.length_append]
      show 2 + _ ≤ _
      omega
    have tx1 : TxL (2 * nd c) (8 * nd c + 1) us := by
      obtain ⟨u, v, rfl, ⟨u', v', rfl, rfl, r2⟩, rfl⟩ := r3
      exact sd_head (.inr rfl) dr.2.1 r2
    have F : Fr [a] H H3 := (f0.mono (by simp)).trans f3
    refine s_loop (d := d) (xs := [.str "while", u1, u2, u3]) (j := 3) F T0 hb at1 (fun σ H2 Q h0 h2 h => ⟨_, h0, b, _, rfl, .inr (sqT h2), _, _, rfl, rfl, h⟩) at3 t1 dr.1 t3 dr.2.2 hn hd (by omega) tp3 e3 tx1 (by omega) fun H5 l5 us5 f5 t5 e5 r5 => q H5 l5 us5 f5 t5 e5 (r5.mono (by omega) (by omega))
  | frl lb f =>
    obtain ⟨u1, r1, rfl, t1, hx⟩ := hx.cons_inv
    obtain ⟨u2, r2, rfl, t2, hx⟩ := hx.cons_inv
    have er := hx.nil_inv
    subst er
    rw [drS] at dr
    rw [dpS] at hd
    rw [plc] at hp q
    repeat refine v_eq (k := 2) rfl (fun z => absurd z (by dsimp only [Sm.k]; decide +kernel)) fun _ => ?_
    refine v_eq2 (k := 2) rfl (fun _ => ?_) fun z => absurd (.inr rfl) z
    refine ⟨five_le, fun p0 hp0 => ?_⟩
    have f0 : Fr [] H (upd H p0 (.lst [.str "for", .str "(", .str ";", .str ";", .str ")"])) := Fr.new hp0
    refine v_eq (k := 2) rfl (fun z => absurd z (by dsimp only [Sm.k]; decide +kernel)) fun _ => ?_
    exact s_loop (d := d) (xs := [.str "for", u1, u2]) (j := 2) (us := ["for", "(", ";", ";", ")"]) (f0.mono (by simp)) T0 hb at1 (fun σ H2 Q h0 h2 h => ⟨_, h0, b, _, rfl, .inr (sqT h2), _, _, rfl, rfl, h⟩) at2 t1 dr.1 t2 dr.2 hn hd (by omega) (T0.fr0 f0) upd_same ⟨Tx.forh, Nat.le_refl _⟩ (by decide) fun H5 l5 us5 f5 t5 e5 r5 => q H5 l5 us5 f5 t5 e5 (r5.mono (by omega) (by simp only [List.length_cons, List.length_nil]; omega))
  | jmp k lb =>
    obtain ⟨u1, r1, rfl, t1, hx⟩ := hx.cons_inv
    rw [drS] at dr
    rw [plc] at out
    have hk : k ∈ (["let", "for", "break", "continue", "return", "try", "{"] : List Str) := by rcases dr.1 with rfl | rfl <;> decide +kernel
    have ne : ∀ y : Str, y ≠ "break" → y ≠ "continue" → ¬ Sm.k (.jmp k lb) = y := fun y h1 h2 z => by
      rcases dr.1 with e | e
      · exact h1 (z.symm.trans e)
      · exact h2 (z.symm.trans e)
    refine v_eq (k := 2) rfl (fun z => absurd z (ne _ (by decide +kernel) (by decide +kernel))) fun _ => ?_
    refine v_eq (k := 2) rfl (fun z => absurd z (ne _ (by decide +kernel) (by decide +kernel))) fun _ => ?_
    refine v_eq (k := 2) rfl (fun z => absurd z (ne _ (by decide +kernel) (by decide +kernel))) fun _ => ?_
    refine v_eq (k := 2) rfl (fun z => absurd z (ne _ (by decide +kernel) (by decide +kernel))) fun _ => ?_
    refine v_eq (k := 2) rfl (fun z => absurd z (ne _ (by decide +kernel) (by decide +kernel))) fun _ => ?_
    refine v_eq (k := 2) rfl (fun z => absurd z (ne _ (by decide +kernel) (by decide +kernel))) fun _ => ?_
    refine v_eq2 (k := 2) rfl (fun z => z.elim (fun z => absurd z (ne _ (by decide +kernel) (by decide +kernel))) fun z => absurd z (ne _ (by decide +kernel) (by decide +kernel))) fun _ => ?_
    refine ⟨_, rfl, b, _, 1, _, rfl, rfl, sqT hb, at1, rfl, _, rfl, ?_⟩
    cases lb with
    | none =>
      obtain rfl := TD.non_inv t1
      exact ⟨_, rfl, two_le, out H [k, ";"] Fr.refl (((TxL.kw hk).cat (TxL.k0 (x := ";") (by decide +kernel))).mono (by decide) (by decide))⟩
    | some x =>
      obtain rfl := TD.str_inv t1
      exact ⟨_, rfl, _, rfl, b, _, 1, _, rfl, rfl, sqT hb, at1, .inl ⟨_, rfl, three_le, out H [k, x, ";"] Fr.refl (((TxL.kw hk).cat ((TxL.nm (hn x (dr.2 x rfl))).cat (TxL.k0 (x := ";") (by decide +kernel)))).mono (by decide) (by decide))⟩⟩
  | ret n =>
    obtain ⟨u1, r1, rfl, t1, hx⟩ := hx.cons_inv
    rw [drS] at dr
    rw [plc] at out
    repeat refine v_eq (k := 2) rfl (fun z => absurd z (by dsimp only [Sm.k]; decide +kernel)) fun _ => ?_
    refine v_eq2 (k := 2) rfl (fun z => absurd z (by dsimp only [Sm.k]; decide +kernel)) fun _ => ?_
    refine ⟨_, rfl, b, _, 1, _, rfl, rfl, sqT hb, at1, rfl, _, rfl, ?_⟩
    cases n with
    | none =>
      obtain rfl := TD.non_inv t1
      exact ⟨_, rfl, two_le, out H ["return", ";"] Fr.refl (((TxL.kw (x := "return") (by decide +kernel)).cat (TxL.k0 (x := ";") (by decide +kernel))).mono (by decide) (by decide))⟩
    | some k =>
      obtain rfl := TD.int_inv t1
      obtain ⟨k0, k1⟩ := dr k rfl
      have lg : k.natAbs.log2 < 1920 := by
        have : k.natAbs.log2 ≤ k.natAbs := Nat.log2_le_self _
        omega
      exact ⟨_, rfl, _, rfl, b, _, 1, _, rfl, rfl, sqT hb, at1, .inr ⟨_, rfl, lg, three_le, out H ["return", Str.ofString (toString k), ";"] Fr.refl (((TxL.kw (x := "return") (by decide +kernel)).cat ((show TxL 0 1 [Str.ofString (toString k)] from ⟨Tx.one (pw_num k0 k1), Nat.le_refl _⟩).cat (TxL.k0 (x := ";") (by decide +kernel)))).mono (by decide) (by decide))⟩⟩
end
end K18

/-! WA: statements said, all -/
namespace K18
open PySem PySem.Spec L2
open PyProof.Rows hiding St

section
variable {wd : World} {K : PySem.W.Frag} {mg : Str → Option Value} {base : Heap} {w : Rw}
theorem bds_fine {nms : List Str} {t : Sm} (h : drS nms t) : fine t := by
  rintro w l rfl
  rw [drS] at h
  exact h.1
theorem pure_inside {d : Nat} {spE : Sp} (hE : ∀ e, d = e + 1 → spE = spSe e) (vs : List V) (H : Hp) (Q : VK) (E : XK) (h : spIn d vs H Q E) : t_l_inside K E spE (spSp d) { nx := fun _ H' => Q .non H', rt := Q } (start N_l_inside vs) H := by
  obtain ⟨a, s, v, bare, l, nms, rfl, T0, hv, dr, hn, hd, hp, q⟩ := h
  obtain ⟨b, xs, rfl, hb, hx⟩ := TD.tup_inv hv
  have xl : xs.length = l.length := by rw [hx.length, Sm.datas_map, List.length_map]
  -- braces
  have full : ∀ H1, Fr [a] H H1 → TpS H1 a s → tRet (tOp rCat (tOp rCat (tLst (tCons (tC (.str "{")) tNil)) (tCal (spSp d) E (tCons (tVar 0) (tCons (tVar 1) tNil)))) (tLst (tCons (tC (.str "}")) tNil))) { nx := fun _ H' => Q .non H', rt := Q } [some (.ref a), some (.ref b), some (.bl bare)] H1 := by
    intro H1 f1 t1
    have sp : Say a s [some (.ref a), some (.ref b), some (.bl bare)] H (tCal (spSp d) E (tCons (tVar 0) (tCons (tVar 1) tNil))) (TxL (3 * plcs l) (40 * plcs l + 1)) := fun H2 f2 t2 Q q => ⟨_, rfl, _, rfl, a, s, .ref b, l, nms, rfl, t2, TD.fr hv f2, dr, hn, hd, hp, q⟩
    refine (((Say.c1 "{").cat sp (fun us e => by rw [e]; decide) (fun us e => by have := e.2; omega)).cat (Say.c1 "}") (fun us e => ?_) (fun us e => by rw [e]; decide)) H1 f1 t1 _ fun H3 l us f3 t3 e3 r3 => q H3 l us (f1.trans f3) t3 e3 ?_
    · obtain ⟨u, v, rfl, rfl, r2⟩ := e
      have := r2.2
      rw [List.length_append]
      show 1 + _ ≤ _
      omega
    · obtain ⟨u, v, rfl, ⟨u', v', rfl, rfl, r2⟩, rfl⟩ := r3
      exact (((TxL.kw (x := "{") (by decide +kernel)).cat r2).cat (TxL.k0 (x := "}") (by decide +kernel))).mono (by omega) (by omega)
  -- one statement
  have mid : ∀ H1, Fr [a] H H1 → TpS H1 a s → (tSeq (tIfS (tAnd (tTest (tOp rEq (tCB (rLenQ K) (tCons (tVar 1) tNil)) (tC (.int 1)))) (tAnd (tTest (tOp rNe (tOp (rIxT K) (tOp (rIxT K) (tVar 1) (tC (.int 0))) (tC (.int 0))) (tC (.str "let")))) (tTest (tOp rNe (tOp (rIxT K) (tOp (rIxT K) (tVar 1) (tC (.int 0))) (tC (.int 0))) (tC (.str "block")))))) (tIfS (tAnd (tOr (tB (tVar 2)) (tTest (tOp rEq (tCB (rLenQ K) (tCons (tCal spLBds E (tCons (tOp (rIxT K) (tVar 1) (tC (.int 0))) tNil)) tNil)) (tC (.int 0))))) (tTest (tOp rEq (tCal spDraw E (tCons (tVar 0) (tCons (tC (.int 2)) tNil))) (tC (.int 0))))) (tRet (tCal spE E (tCons (tVar 0) (tCons (tOp (rIxT K) (tVar 1) (tC (.int 0))) tNil)))) tNext) tNext)
      (tRet (tOp rCat (tOp rCat (tLst (tCons (tC (.str "{")) tNil)) (tCal (spSp d) E (tCons (tVar 0) (tCons (tVar 1) tNil)))) (tLst (tCons (tC (.str "}")) tNil))))) { nx := fun _ H' => Q .non H', rt := Q } [some (.ref a), some (.ref b), some (.bl bare)] H1 := by
    intro H1 f1 t1
    have hb1 := f1.tup _ _ hb
    refine ⟨_, rfl, b, _, rfl, .inr (sqT hb1), rfl, _, rfl, iteB (fun c1 => ?_) fun _ => iteF (full H1 f1 t1)⟩
    have c1' : (xs.length : Int) = 1 := V.int.inj (of_decide_eq_true c1)
    obtain ⟨t, rfl⟩ : ∃ t, l = [t] := List.length_eq_one_iff.mp (by omega)
    rw [Sm.datas, Sm.datas] at hx
    obtain ⟨u, r, rfl, tu, hr⟩ := hx.cons_inv
    have er := hr.nil_inv
    subst er
    rw [drL] at dr
    rw [dB, dB] at hd
    rw [plcs, plcs] at hp
    obtain ⟨e, rfl⟩ : ∃ e, d = e + 1 := ⟨d - 1, by omega⟩
    rw [hE e rfl]
    obtain ⟨c, ys, rfl, hc, hy⟩ := sm_open tu
    have hc1 := f1.tup _ _ hc
    refine ⟨_, rfl, b, _, 0, _, rfl, rfl, sqT hb1, at0, c, _, 0, _, rfl, rfl, sqT hc1, at0, rfl, _, rfl, iteB (fun _ => ?_) fun _ => iteF (full H1 f1 t1)⟩
    refine ⟨_, rfl, b, _, 0, _, rfl, rfl, sqT hb1, at0, c, _, 0, _, rfl, rfl, sqT hc1, at0, rfl, _, rfl, iteB (fun _ => ?_) fun _ => full H1 f1 t1⟩
    have draw : ∀ H2, Fr [a] H H2 → TpS H2 a s → tTest (tOp rEq (tCal spDraw E (tCons (tVar 0) (tCons (tC (.int 2)) tNil))) (tC (.int 0))) [some (.ref a), some (.ref b), some (.bl bare)] H2 fun bb H' => if bb = true then
        tRet (tCal (spSe e) E (tCons (tVar 0) (tCons (tOp (rIxT K) (tVar 1) (tC (.int 0))) tNil))) { nx := (tRet (tOp rCat (tOp rCat (tLst (tCons (tC (.str "{")) tNil)) (tCal (spSp (e + 1)) E (tCons (tVar 0) (tCons (tVar 1) tNil)))) (tLst (tCons (tC (.str "}")) tNil)))) { nx := fun _ H' => Q .non H', rt := Q }, rt := Q } [some (.ref a), some (.ref b), some (.bl bare)] H'
        else tNext { nx := (tRet (tOp rCat (tOp rCat (tLst (tCons (tC (.str "{")) tNil)) (tCal (spSp (e + 1)) E (tCons (tVar 0) (tCons (tVar 1) tNil)))) (tLst (tCons (tC (.str "}")) tNil)))) { nx := fun _ H' => Q .non H', rt := Q }, rt := Q } [some (.ref a), some (.ref b), some (.bl bare)] H' := by
      intro H2 f2 t2
      refine g_draw 2 rfl t2 fun H3 r f3 t3 hr => ⟨rfl, _, rfl, iteB (fun _ => ?_) fun _ => full H3 (f2.trans f3) t3⟩
      have F := f2.trans f3
      refine ⟨_, rfl, _, rfl, b, _, 0, _, rfl, rfl, sqT (F.tup _ _ hb), at0, a, s, .ref c, t, nms, rfl, t3, tu.fr F, dr.1, hn, by omega, by omega, fun H4 r ws f4 t4 e4 tx => q H4 r ws (F.trans f4) t4 e4 ?_⟩
      rw [plcs, plcs]
      exact tx.mono (by omega) (by omega)
    refine ⟨_, rfl, bare, rfl, iteB (fun _ => ?_) fun _ => ?_⟩
    · exact iteT (draw H1 f1 t1)
    refine ⟨_, rfl, b, _, 0, _, rfl, rfl, sqT hb1, at0, .ref c, t, rfl, tu.fr f1, bds_fine dr.1, fun H2 l2 xs2 f2 hl2 hlen => ?_⟩
    have F2 := f1.trans (f2.mono (by simp) : Fr [a] H1 H2)
    have T2 := t1.fr0 f2
    refine ⟨l2, _, rfl, .inl (sqL hl2), rfl, _, rfl, ?_⟩
    generalize decide (V.int (xs2.length : Int) = V.int 0) = z
    cases z with
    | true => exact iteT (draw H2 F2 T2)
    | false => exact iteF (full H2 F2 T2)
  refine ⟨_, rfl, b, _, rfl, .inr (sqT hb), rfl, _, rfl, iteB (fun _ => ?_) fun _ => iteF (mid H Fr.refl T0)⟩
  refine g_draw 3 rfl T0 fun H1 r f1 t1 hr => ⟨rfl, _, rfl, iteB (fun _ => ?_) fun _ => mid H1 f1 t1⟩
  refine ⟨one_le, fun p hp => ?_⟩
  have fn : Fr [] H1 (upd H1 p (.lst [.str ";"])) := Fr.new hp
  exact q _ p [";"] (f1.trans (fn.mono (by simp))) (t1.fr0 fn) upd_same ((TxL.k0 (x := ";") (by decide +kernel)).mono (by omega) (by omega))
/-- words under way in a list of our own, one tape -/
structure LsP (a s lp : Addr) (H H' : Hp) (ws : List Str) : Prop where
  t0 : TpS H a s
  fr : Fr [a] H H'
  tp : TpS H' a s
  n : H lp = none
  l : H' lp = some (.lst (ws.map V.str))
section
variable {a s lp p : Addr} {H H1 H2 : Hp} {ws us : List Str}
theorem LsP.nin (S : LsP a s lp H H1 ws) : lp ≠ a ∧ lp ≠ s := S.t0.nea S.n
theorem LsP.app (S : LsP a s lp H H1 ws) (x : Str) : LsP a s lp H (upd H1 lp (.lst (ws.map V.str ++ [.str x]))) (ws ++ [x]) := by
  have f : Fr [lp] H1 (upd H1 lp (.lst (ws.map V.str ++ [.str x]))) := Fr.put S.l (List.mem_singleton.mpr rfl)
  exact ⟨S.t0, S.fr.out S.n, S.tp.fr f (by simpa using Ne.symm S.nin.1) (by simpa using Ne.symm S.nin.2), S.n, by rw [upd_same, List.map_append]; rfl⟩
theorem LsP.step (S : LsP a s lp H H1 ws) (f : Fr [a] H1 H2) (g : TpS H2 a s) : LsP a s lp H H2 ws := ⟨S.t0, S.fr.trans f, g, S.n, f.oth _ _ S.l (by simpa using S.nin.1)⟩
theorem LsP.cat (S : LsP a s lp H H1 ws) (hp : H1 p = none) : LsP a s p H (upd H1 p (.lst (us.map V.str))) us := by
  have f : Fr [] H1 (upd H1 p (.lst (us.map V.str))) := Fr.new hp
  exact ⟨S.t0, S.fr.trans (f.mono (by simp)), S.tp.fr0 f, S.fr.none_of hp (by simpa using (S.tp.nea hp).1), upd_same⟩
end
def CN7 : List Int := [0, 0, 0, 0, 0, 1, 2]
theorem cn7 {r : Nat} (h : r < max 7 1) : ∃ n : Int, (CN7.map V.int)[r]? = some (.int n) ∧ 0 ≤ n ∧ n ≤ 2 := by
  have e : ∀ r < 7, ((CN7[r]?).map fun n => decide (0 ≤ n ∧ n ≤ 2)) = some true := by decide
  obtain ⟨n, e1, e2⟩ := Option.map_eq_some_iff.mp (e r (by omega))
  have := of_decide_eq_true e2
  exact ⟨n, by rw [List.getElem?_map, e1]; rfl, this.1, this.2⟩
theorem drL.mem {nms : List Str} : ∀ {l : List Sm} {t : Sm}, drL nms l → t ∈ l → drS nms t
  | y :: r, t, h, m => by
    rw [drL] at h
    rcases List.mem_cons.mp m with rfl | m
    · exact h.1
    · exact drL.mem h.2 m
theorem TxL.nil : TxL 0 0 [] := ⟨Tx.nil, Nat.le_refl _⟩
theorem TxL.semi {n m : Nat} {ws : List Str} (t : TxL n m ws) : TxL n (m + 1) (ws ++ [(";" : Str)]) := (t.cat (TxL.k0 (x := ";") (by decide +kernel))).mono (by omega) (by omega)
theorem dB_mem : ∀ {l : List Sm} {t : Sm}, t ∈ l → 1 + dpS t ≤ dB l := fun {l t} h => by
  rw [dB_mx]
  exact mx_le (List.mem_map.mpr ⟨t, h, rfl⟩)
theorem pure_spoken {d : Nat} {spE : Sp} (hE : ∀ e, d = e + 1 → spE = spSe e) (vs : List V) (H : Hp) (Q : VK) (E : XK) (h : spSp d vs H Q E) : t_l_spoken K E spE { nx := fun _ H' => Q .non H', rt := Q } (start N_l_spoken vs) H := by
  obtain ⟨a, s, v, l, nms, rfl, T0, hv, dr, hn, hd, hp, q⟩ := h
  obtain ⟨b, xs, rfl, hb, hx⟩ := TD.tup_inv hv
  have xl : xs.length = l.length := by rw [hx.length, Sm.datas_map, List.length_map]
  refine ⟨Nat.zero_le _, fun l0 hl0 => ?_⟩
  have S0 : LsP a s l0 H (upd H l0 (.lst [])) [] := by
    have f : Fr [] H (upd H l0 (.lst [])) := Fr.new hl0
    exact ⟨T0, f.mono (by simp), T0.fr0 f, hl0, upd_same⟩
  generalize upd H l0 (.lst []) = H1 at S0
  refine ⟨_, rfl, b, rfl, ⟨_, sqT (S0.fr.tup _ _ hb)⟩, for_tup (xs := xs) (fun k σ H' => ∃ (lp : Addr) (ws : List Str) (p3 p4 : Option V), σ = [some (.ref a), some (.ref b), some (.ref lp), p3, p4] ∧ LsP a s lp H H' ws ∧ TxL (3 * plcs (l.take k)) (40 * plcs (l.take k)) ws) ⟨l0, [], none, none, rfl, S0, TxL.nil⟩ (fun i σ H' _ p => ?_) ?_ ?_⟩
  · obtain ⟨lp, ws, p3, p4, rfl, S, _⟩ := p
    exact sqT (S.fr.tup _ _ hb)
  · rintro k x σ H2 hk ⟨lp, ws, p3, p4, rfl, S, tx⟩
    obtain ⟨t, e1, tv⟩ := sm_get hx hk
    have mem : t ∈ l := List.mem_of_getElem? e1
    have tk1 : plcs (l.take (k + 1)) = plcs (l.take k) + plc t := by
      rw [List.take_add_one, e1]
      show plcs (l.take k ++ [t]) = _
      rw [plcs_append, plcs, plcs]
      omega
    have tk2 : plcs (l.take (k + 1)) ≤ plcs l := by
      have := congrArg plcs (List.take_append_drop (k + 1) l)
      rw [plcs_append] at this
      omega
    have pp := plc_pos t
    have dm := dB_mem mem
    obtain ⟨e, rfl⟩ : ∃ e, d = e + 1 := ⟨d - 1, by omega⟩
    rw [hE e rfl]
    refine ⟨(show 7 ≤ sizeLine by decide), fun l7 hl7 => ?_⟩
    have f2 : Fr [] H2 (upd H2 l7 (.lst (CN7.map V.int))) := Fr.new hl7
    have S2 := S.step (f2.mono (by simp)) (S.tp.fr0 f2)
    have n7 := S.tp.nea hl7
    refine g_draw 7 rfl S2.tp fun H3 r f3 t3 hr => ?_
    obtain ⟨n, en, hn0, hn2⟩ := cn7 hr
    have S3 := S2.step f3 t3
    refine ⟨l7, _, _, _, rfl, rfl, sqL (f3.oth _ _ upd_same (by simpa using n7.1)), atI_nat en, _, rfl, by omega, by omega, ?_⟩
    refine for_range (fun j σ H' => ∃ (ws : List Str) (p4 : Option V), σ = [some (.ref a), some (.ref b), some (.ref lp), some x, p4] ∧ LsP a s lp H H' ws ∧ TxL (3 * plcs (l.take k)) (40 * plcs (l.take k) + j) ws) ⟨ws, p4, rfl, S3, tx⟩ ?_ ?_
    · rintro j σ H4 hj ⟨ws, p4, rfl, S4, tx⟩
      refine ⟨_, rfl, .inl ⟨rfl, _, sqL S4.l⟩, lp, _, _, rfl, rfl, S4.l, mil2 (by rw [List.length_map]; have := tx.2; omega), ?_⟩
      exact ⟨ws ++ [(";" : Str)], _, rfl, S4.app ";", tx.semi⟩
    · rintro σ H4 ⟨ws, p4, rfl, S4, tx⟩
      refine ⟨_, rfl, _, rfl, _, rfl, a, s, x, t, nms, rfl, S4.tp, tv.fr S4.fr, dr.mem mem, hn, by omega, by omega, fun H5 l5 us f5 t5 e5 tx5 => ?_⟩
      have S5 := S4.step f5 t5
      refine ⟨lp, l5, _, _, rfl, rfl, S5.l, e5, mil (by rw [List.length_map, List.length_map]; have := tx.2; have := tx5.2; omega), fun p hp => ?_⟩
      have S6 := S5.cat (us := ws ++ us) hp
      rw [List.map_append] at S6
      exact ⟨p, ws ++ us, _, _, rfl, S6, (tx.cat tx5).mono (by omega) (by omega)⟩
  · rintro σ H2 ⟨lp, ws, p3, p4, rfl, S, tx⟩
    rw [xl, List.take_length] at tx
    refine g_draw 9 rfl S.tp fun H3 r f3 t3 hr => ⟨rfl, _, rfl, ?_⟩
    have S3 := S.step f3 t3
    refine iteB (fun _ => ?_) fun _ => ⟨_, rfl, q _ lp ws S3.fr S3.tp S3.l (tx.mono (Nat.le_refl _) (by omega))⟩
    refine ⟨_, rfl, .inl ⟨rfl, _, sqL S3.l⟩, lp, _, _, rfl, rfl, S3.l, mil2 (by rw [List.length_map]; have := tx.2; omega), ?_⟩
    have S4 := S3.app ";"
    exact ⟨_, rfl, q _ lp _ S4.fr S4.tp S4.l tx.semi⟩
theorem ok_sayings (T : Txt K mg) : ∀ d, ∃ spE : Sp, (∀ e, d = e + 1 → spE = spSe e) ∧ CalS R0 wd K mg base (3 * d + 21) "_law_sentence" spE ∧ CalS R0 wd K mg base (3 * d + 22) "_law_spoken" (spSp d) := by
  have spoken : ∀ (d k : Nat) (spE : Sp), (∀ e, d = e + 1 → spE = spSe e) → 1 ≤ k → CalS R0 wd K mg base k "_law_sentence" spE → CalS R0 wd K mg base (k + 1) "_law_spoken" (spSp d) := by
    intro d k spE hE hk GE
    refine cal_s T.d_l_spoken T.g_l_spoken sc_l_spoken (fun _ _ _ _ _ _ us hl => match us, hl with | [_, _], _ => rfl) (fun vs H Q E h => ?_) (fun cdv A outer s H vs Q E hr h => ⟨t_l_spoken K E spE, ?_, pure_spoken hE vs H Q E h⟩)
    · obtain ⟨a, s, v, l, nms, rfl, _⟩ := h
      rfl
    · exact (pss_cons (ps_set (i := 2) sc_l_spoken.nd rfl (Or.inl rfl) (pe_lst pa_nil))
      (pss_cons (ps_for ownE rfl (pi_tup (pv 1)) (pg_name (i := 3) sc_l_spoken.nd rfl (Or.inl rfl)) (pss_cons (ps_for ownE rfl (pi_range1 rfl T.f_range (pa_cons (pe_ix ix_list (pe_lst (pa_cons pe_int (pa_cons pe_int (pa_cons pe_int (pa_cons pe_int (pa_cons pe_int (pa_cons pe_int (pa_cons pe_int pa_nil)))))))) (pc (ok_draw T) hr (by omega) passE rfl (pa_cons (pv 0) (pa_cons pe_int pa_nil))) (fun _ _ => rfl)) pa_nil)) (pg_name (i := 4) sc_l_spoken.nd rfl (Or.inl rfl)) (pss_one (ps_expr (pe_bm PySem.F.plainAttrs_list PySem.F.slot_list_append PySem.F.type_list_append mt_append (pv 2) (pa_cons pe_str pa_nil)))))
      (pss_one (ps_set (i := 2) sc_l_spoken.nd rfl (Or.inl rfl) (pe_op op_cat (pv 2) (pc GE hr (by omega) passE rfl (pa_cons (pv 0) (pa_cons (pv 3) pa_nil))))))))
      (pss_cons (ps_if (pt_cmpR op_eq (pc (ok_draw T) hr (by omega) passE rfl (pa_cons (pv 0) (pa_cons pe_int pa_nil))) pe_int (nomark _)) (pss_one (ps_expr (pe_bm PySem.F.plainAttrs_list PySem.F.slot_list_append PySem.F.type_list_append mt_append (pv 2) (pa_cons pe_str pa_nil)))) pss_nil)
      (pss_one (ps_ret (pv 2))))))
  have inside : ∀ (d k : Nat) (spE : Sp), (∀ e, d = e + 1 → spE = spSe e) → 1 ≤ k → CalS R0 wd K mg base k "_law_sentence" spE → CalS R0 wd K mg base (k + 1) "_law_spoken" (spSp d) → CalS R0 wd K mg base (k + 2) "_law_inside" (spIn d) := by
    intro d k spE hE hk GE GP
    refine cal_s T.d_l_inside T.g_l_inside sc_l_inside (fun _ _ _ _ _ _ us hl => match us, hl with | [_, _, _], _ => rfl) (fun vs H Q E h => ?_) (fun cdv A outer s H vs Q E hr h => ⟨t_l_inside K E spE (spSp d), ?_, pure_inside hE vs H Q E h⟩)
    · obtain ⟨a, s, v, bare, l, nms, rfl, _⟩ := h
      rfl
    · exact (pss_cons (ps_if (PW.pt (pw_and (pt_cmpR op_eq (pe_callB call_len_seq rfl T.f_len (by decide +kernel) (pa_cons (pv 1) pa_nil)) pe_int (nomark _)) (pw_and1 (pt_cmpR op_eq (pc (ok_draw T) hr (by omega) passE rfl (pa_cons (pv 0) (pa_cons pe_int pa_nil))) pe_int (nomark _))))) (pss_one (ps_ret (pe_lst (pa_cons pe_str pa_nil)))) pss_nil)
      (pss_cons (ps_if (PW.pt (pw_and (pt_cmpR op_eq (pe_callB call_len_seq rfl T.f_len (by decide +kernel) (pa_cons (pv 1) pa_nil)) pe_int (nomark _)) (pw_and (pt_cmpR op_ne (pe_ix ix_tup (pe_ix ix_tup (pv 1) pe_int (fun _ _ => rfl)) pe_int (fun _ _ => rfl)) pe_str (nomark _)) (pw_and1 (pt_cmpR op_ne (pe_ix ix_tup (pe_ix ix_tup (pv 1) pe_int (fun _ _ => rfl)) pe_int (fun _ _ => rfl)) pe_str (nomark _)))))) (pss_one (ps_if (PW.pt (pw_and (PW.pt (pw_or (pt_val (pv 2)) (pw_or1 (pt_cmpR op_eq (pe_callB call_len_seq rfl T.f_len (by decide +kernel) (pa_cons (pc (ok_lbds T) hr (by omega) passE rfl (pa_cons (pe_ix ix_tup (pv 1) pe_int (fun _ _ => rfl)) pa_nil)) pa_nil)) pe_int (nomark _))))) (pw_and1 (pt_cmpR op_eq (pc (ok_draw T) hr (by omega) passE rfl (pa_cons (pv 0) (pa_cons pe_int pa_nil))) pe_int (nomark _))))) (pss_one (ps_ret (pc GE hr (by omega) passE rfl (pa_cons (pv 0) (pa_cons (pe_ix ix_tup (pv 1) pe_int (fun _ _ => rfl)) pa_nil))))) pss_nil)) pss_nil)
      (pss_one (ps_ret (pe_op op_cat (pe_op op_cat (pe_lst (pa_cons pe_str pa_nil)) (pc GP hr (by omega) passE rfl (pa_cons (pv 0) (pa_cons (pv 1) pa_nil)))) (pe_lst (pa_cons pe_str pa_nil)))))))
  have sentence : ∀ (d k : Nat), 21 ≤ k → CalS R0 wd K mg base (k + 1) "_law_spoken" (spSp d) → CalS R0 wd K mg base (k + 2) "_law_inside" (spIn d) → CalS R0 wd K mg base (k + 3) "_law_sentence" (spSe d) := by
    intro d k hk GP GI
    have GS := ok_said (wd := wd) (base := base) T 20
    refine cal_s T.d_l_sentence T.g_l_sentence sc_l_sentence (fun _ _ _ _ _ _ us hl => match us, hl with | [_, _], _ => rfl) (fun vs H Q E h => ?_) (fun cdv A outer s H vs Q E hr h => ⟨t_l_sentence K E (spSd 20) (spSp d) (spIn d), ?_, pure_sentence vs H Q E h⟩)
    · obtain ⟨a, s, v, t, nms, rfl, _⟩ := h
      rfl
    · exact (pss_cons (ps_set (i := 2) sc_l_sentence.nd rfl (Or.inl rfl) (pe_ix ix_tup (pv 1) pe_int (fun _ _ => rfl)))
      (pss_cons (ps_if (pt_cmpR op_eq (pv 2) pe_str (nomark _)) (pss_one (ps_ret (pe_lst (pa_cons (pe_ix ix_tup (pv 1) pe_int (fun _ _ => rfl)) (pa_cons pe_str (pa_cons pe_str (pa_cons pe_str pa_nil))))))) pss_nil)
      (pss_cons (ps_if (pt_cmpR op_eq (pv 2) pe_str (nomark _)) (pss_one (ps_ret (pe_lst (pa_cons pe_str (pa_cons (pe_ix ix_tup (pv 1) pe_int (fun _ _ => rfl)) (pa_cons pe_str (pa_cons (pe_ix ix_list (pe_lst (pa_cons pe_str (pa_cons pe_str pa_nil))) (pe_callTy call_int1 rfl T.f_int (by decide +kernel) (pa_cons (pe_ix ix_tup (pv 1) pe_int (fun _ _ => rfl)) pa_nil)) (fun _ _ => rfl)) (pa_cons pe_str pa_nil)))))))) pss_nil)
      (pss_cons (ps_if (pt_cmpR op_eq (pv 2) pe_str (nomark _)) (pss_one (ps_ret (pe_lst (pa_cons (pe_ix ix_tup (pv 1) pe_int (fun _ _ => rfl)) (pa_cons pe_str (pa_cons (pe_ix ix_list (pe_lst (pa_cons pe_str (pa_cons pe_str pa_nil))) (pe_callTy call_int1 rfl T.f_int (by decide +kernel) (pa_cons (pe_ix ix_tup (pv 1) pe_int (fun _ _ => rfl)) pa_nil)) (fun _ _ => rfl)) (pa_cons pe_str pa_nil))))))) pss_nil)
      (pss_cons (ps_if (pt_cmpR op_eq (pv 2) pe_str (nomark _)) (pss_one (ps_ret (pe_op op_cat (pe_op op_cat (pe_lst (pa_cons pe_str pa_nil)) (pc GP hr (by omega) passE rfl (pa_cons (pv 0) (pa_cons (pe_ix ix_tup (pv 1) pe_int (fun _ _ => rfl)) pa_nil)))) (pe_lst (pa_cons pe_str pa_nil))))) pss_nil)
      (pss_cons (ps_if (pt_cmpR op_eq (pv 2) pe_str (nomark _)) (pss_cons (ps_set (i := 3) sc_l_sentence.nd rfl (Or.inl rfl) (pe_op op_cat (pe_op op_cat (pe_lst (pa_cons pe_str (pa_cons pe_str pa_nil))) (pc GP hr (by omega) passE rfl (pa_cons (pv 0) (pa_cons (pe_ix ix_tup (pv 1) pe_int (fun _ _ => rfl)) pa_nil)))) (pe_lst (pa_cons pe_str (pa_cons pe_str (pa_cons pe_str pa_nil))))))
      (pss_one (ps_ret (pe_op op_cat (pe_op op_cat (pv 3) (pc GP hr (by omega) passE rfl (pa_cons (pv 0) (pa_cons (pe_ix ix_tup (pv 1) pe_int (fun _ _ => rfl)) pa_nil)))) (pe_lst (pa_cons pe_str pa_nil)))))) pss_nil)
      (pss_cons (ps_if (pt_cmpR op_eq (pv 2) pe_str (nomark _)) (pss_cons (ps_set (i := 3) sc_l_sentence.nd rfl (Or.inl rfl) (pe_op op_cat (pe_op op_cat (pe_lst (pa_cons pe_str (pa_cons pe_str pa_nil))) (pc GS hr (by omega) passE rfl (pa_cons (pv 0) (pa_cons (pe_ix ix_tup (pv 1) pe_int (fun _ _ => rfl)) (pa_cons pe_str (pa_cons (pe_lst (pa_cons pe_int pa_nil)) pa_nil)))))) (pe_lst (pa_cons pe_str pa_nil))))
      (pss_cons (ps_if (PW.pt (pw_or (pt_truth (pe_ix ix_tup (pv 1) pe_int (fun _ _ => rfl)) (by intro _; rfl)) (pw_or1 (pt_cmpR op_eq (pc (ok_draw T) hr (by omega) passE rfl (pa_cons (pv 0) (pa_cons pe_int pa_nil))) pe_int (nomark _))))) (pss_cons (ps_set (i := 3) sc_l_sentence.nd rfl (Or.inl rfl) (pe_op op_cat (pe_op op_cat (pv 3) (pc GI hr (by omega) passE rfl (pa_cons (pv 0) (pa_cons (pe_ix ix_tup (pv 1) pe_int (fun _ _ => rfl)) (pa_cons pe_bl pa_nil))))) (pe_lst (pa_cons pe_str pa_nil))))
      (pss_one (ps_ret (pe_op op_cat (pv 3) (pc GI hr (by omega) passE rfl (pa_cons (pv 0) (pa_cons (pe_ix ix_tup (pv 1) pe_int (fun _ _ => rfl)) (pa_cons pe_bl pa_nil)))))))) pss_nil)
      (pss_one (ps_ret (pe_op op_cat (pv 3) (pc GI hr (by omega) passE rfl (pa_cons (pv 0) (pa_cons (pe_ix ix_tup (pv 1) pe_int (fun _ _ => rfl)) (pa_cons pe_bl pa_nil))))))))) pss_nil)
      (pss_cons (ps_if (PW.pt (pw_or (pt_cmpR op_eq (pv 2) pe_str (nomark _)) (pw_or1 (pt_cmpR op_eq (pv 2) pe_str (nomark _))))) (pss_cons (ps_set (i := 3) sc_l_sentence.nd rfl (Or.inl rfl) (pe_lst (pa_cons pe_str (pa_cons pe_str (pa_cons pe_str (pa_cons pe_str (pa_cons pe_str pa_nil)))))))
      (pss_cons (ps_if (pt_cmpR op_eq (pv 2) pe_str (nomark _)) (pss_one (ps_set (i := 3) sc_l_sentence.nd rfl (Or.inl rfl) (pe_op op_cat (pe_op op_cat (pe_lst (pa_cons pe_str (pa_cons pe_str pa_nil))) (pc GS hr (by omega) passE rfl (pa_cons (pv 0) (pa_cons (pe_ix ix_tup (pv 1) pe_int (fun _ _ => rfl)) (pa_cons pe_str (pa_cons (pe_lst (pa_cons pe_int pa_nil)) pa_nil)))))) (pe_lst (pa_cons pe_str pa_nil))))) pss_nil)
      (pss_cons (ps_if (pt_cmpR op_notN (pe_ix ix_tup (pv 1) pe_int (fun _ _ => rfl)) pe_non (nomark _)) (pss_one (ps_set (i := 3) sc_l_sentence.nd rfl (Or.inl rfl) (pe_op op_cat (pe_lst (pa_cons (pe_ix ix_tup (pv 1) pe_int (fun _ _ => rfl)) (pa_cons pe_str pa_nil))) (pv 3)))) pss_nil)
      (pss_one (ps_ret (pe_op op_cat (pv 3) (pc GI hr (by omega) passE rfl (pa_cons (pv 0) (pa_cons (pe_ix ix_tup (pv 1) (pe_op op_sub (pe_callB call_len_seq rfl T.f_len (by decide +kernel) (pa_cons (pv 1) pa_nil)) pe_int) (fun _ _ => rfl)) (pa_cons pe_bl pa_nil)))))))))) pss_nil)
      (pss_cons (ps_if (pt_cmpR op_isN (pe_ix ix_tup (pv 1) pe_int (fun _ _ => rfl)) pe_non (nomark _)) (pss_one (ps_ret (pe_lst (pa_cons (pv 2) (pa_cons pe_str pa_nil))))) pss_nil)
      (pss_one (ps_ret (pe_lst (pa_cons (pv 2) (pa_cons (pe_callTy call_str_any rfl T.f_str (by decide +kernel) (pa_cons (pe_ix ix_tup (pv 1) pe_int (fun _ _ => rfl)) pa_nil)) (pa_cons pe_str pa_nil)))))))))))))))
  intro d
  induction d with
  | zero =>
    have n0 := cal_no (K := K) (mg := mg) (wd := wd) (base := base) (ps := ["_law_tape_here", "_law_statement"]) T.d_l_sentence T.g_l_sentence (fun _ _ _ _ _ _ us hl => match us, hl with | [_, _], _ => rfl) 21
    exact ⟨spNo, (fun _ z => by cases z), n0, spoken 0 21 spNo (fun _ z => by cases z) (by decide) n0⟩
  | succ d ih =>
    obtain ⟨spE, hE, GE, GP⟩ := ih
    have GI := inside d (3 * d + 21) spE hE (by omega) GE GP
    have GS := sentence d (3 * d + 21) (by omega) GP GI
    exact ⟨spSe d, (fun e z => by cases z; rfl), GS, spoken (d + 1) (3 * d + 24) (spSe d) (fun e z => by cases z; rfl) (by omega) GS⟩
theorem ok_spoken (T : Txt K mg) (d : Nat) : CalS R0 wd K mg base (3 * d + 22) "_law_spoken" (spSp d) := by
  obtain ⟨spE, _, _, GP⟩ := ok_sayings (wd := wd) (base := base) T d
  exact GP
end
end K18

/-! WB: words spoilt -/
namespace K18
open PySem PySem.Spec L2
open PyProof.Rows hiding St
abbrev N_l_spoilt_words : List Str := ["_law_tape_here", "_law_words", "_law_name", "_law_place", "_law_menu", "_law_word", "_law_choice"]
theorem sc_l_spoilt_words : FnScope N_l_spoilt_words ["_law_tape_here", "_law_words", "_law_name"] (defScope s_l_spoilt_words) := ⟨rfl, rfl, rfl, by decide +kernel, rfl, by decide +kernel, by decide +kernel⟩
def t_l_spoilt_words (K : PySem.W.Frag) (E : XK)  : TS :=
  (tSeq (tAsg (tCal spDraw E (tCons (tVar 0) (tCons (tOp rAddI (tCB (rLenQ K) (tCons (tVar 1) tNil)) (tC (.int 1))) tNil))) (gName 3))
  (tSeq (tAsg (tLst (tCons (tVar 2) (tCons (tC (.str "(")) (tCons (tC (.str ")")) (tCons (tC (.str "{")) (tCons (tC (.str "}")) (tCons (tC (.str ";")) (tCons (tC (.str ":")) (tCons (tC (.str "=")) (tCons (tC (.str "!")) (tCons (tC (.str "&&")) (tCons (tC (.str "||")) (tCons (tC (.str "7")) (tCons (tC (.str "let")) (tCons (tC (.str "if")) (tCons (tC (.str "else")) (tCons (tC (.str "while")) (tCons (tC (.str "for")) (tCons (tC (.str "break")) (tCons (tC (.str "continue")) (tCons (tC (.str "return")) (tCons (tC (.str "try")) (tCons (tC (.str "finally")) (tCons (tC (.str "true")) (tCons (tC (.str "false")) tNil))))))))))))))))))))))))) (gName 4))
  (tSeq (tAsg (tOp (rIxL K) (tVar 4) (tCal spDraw E (tCons (tVar 0) (tCons (tC (.int 24)) tNil)))) (gName 5))
  (tSeq (tAsg (tCal spDraw E (tCons (tVar 0) (tCons (tC (.int 7)) tNil))) (gName 6))
  (tSeq (tIfS (tTest (tOp rEq (tVar 6) (tC (.int 0)))) (tRet (tOp rCat (tSl (rSlL K) (tVar 1) tNoPart (tPart (tVar 3))) (tSl (rSlL K) (tVar 1) (tPart (tOp rAddI (tVar 3) (tC (.int 1)))) tNoPart))) tNext)
  (tSeq (tIfS (tTest (tOp rEq (tVar 6) (tC (.int 1)))) (tRet (tOp rCat (tOp rCat (tSl (rSlL K) (tVar 1) tNoPart (tPart (tVar 3))) (tSl (rSlL K) (tVar 1) (tPart (tVar 3)) (tPart (tOp rAddI (tVar 3) (tC (.int 1)))))) (tSl (rSlL K) (tVar 1) (tPart (tVar 3)) tNoPart))) tNext)
  (tSeq (tIfS (tTest (tOp rEq (tVar 6) (tC (.int 2)))) (tRet (tOp rCat (tOp rCat (tOp rCat (tSl (rSlL K) (tVar 1) tNoPart (tPart (tVar 3))) (tSl (rSlL K) (tVar 1) (tPart (tOp rAddI (tVar 3) (tC (.int 1)))) (tPart (tOp rAddI (tVar 3) (tC (.int 2)))))) (tSl (rSlL K) (tVar 1) (tPart (tVar 3)) (tPart (tOp rAddI (tVar 3) (tC (.int 1)))))) (tSl (rSlL K) (tVar 1) (tPart (tOp rAddI (tVar 3) (tC (.int 2)))) tNoPart))) tNext)
  (tSeq (tIfS (tTest (tOp rEq (tVar 6) (tC (.int 3)))) (tRet (tSl (rSlL K) (tVar 1) tNoPart (tPart (tVar 3)))) tNext)
  (tSeq (tIfS (tTest (tOp rEq (tVar 6) (tC (.int 4)))) (tRet (tOp rCat (tOp rCat (tSl (rSlL K) (tVar 1) tNoPart (tPart (tVar 3))) (tLst (tCons (tVar 5) tNil))) (tSl (rSlL K) (tVar 1) (tPart (tVar 3)) tNoPart))) tNext)
  (tRet (tOp rCat (tOp rCat (tSl (rSlL K) (tVar 1) tNoPart (tPart (tVar 3))) (tLst (tCons (tVar 5) tNil))) (tSl (rSlL K) (tVar 1) (tPart (tOp rAddI (tVar 3) (tC (.int 1)))) tNoPart))))))))))))
theorem cutV_mid (xs : List V) {i j : Nat} (h : i ≤ j) : cutV xs (some (i : Int)) (some (j : Int)) = (xs.drop i).take (j - i) := by
  unfold cutV
  rw [HT.sIx_nat, HT.sIx_nat]
  by_cases h1 : i ≤ xs.length
  · rw [Nat.min_eq_left h1]
    by_cases h2 : j ≤ xs.length
    · rw [Nat.min_eq_left h2]
    · rw [Nat.min_eq_right (by omega), List.take_of_length_le (by rw [List.length_drop]; omega), List.take_of_length_le (by rw [List.length_drop]; omega)]
  · rw [Nat.min_eq_right (show xs.length ≤ i by omega), List.drop_of_length_le (Nat.le_refl _), List.drop_of_length_le (show xs.length ≤ i by omega), List.take_nil, List.take_nil]
/-- a slice of the words -/
theorem Say.cut {a s : Addr} {σ : L2.St} {H : Hp} {K : PySem.W.Frag} {i : Nat} {l : Addr} {W us : List Str} {tl th : TO} {lo hi : Option Int} (t : TpS H a s) (ho : σ[i]? = some (some (.ref l))) (h : H l = some (.lst (W.map V.str)))
    (hl : ∀ H Q, Q lo H → tl σ H Q) (hh : ∀ H Q, Q hi H → th σ H Q) (e : cutV (W.map V.str) lo hi = us.map V.str) : Say a s σ H (tSl (rSlL K) (tVar i) tl th) (· = us) := by
  intro H2 f2 t2 Q q
  have h2 := f2.oth _ _ h (by simpa using tps_ne t h)
  refine ⟨_, ho, hl H2 _ (hh H2 _ ⟨l, _, rfl, sqL h2, fun p hp => ?_⟩)⟩
  rw [e]
  have fn : Fr [] H2 (upd H2 p (.lst (us.map V.str))) := Fr.new hp
  exact q _ p us (fn.mono (by simp)) (t2.fr0 fn) upd_same rfl
def MENU : List Str := ["(", ")", "{", "}", ";", ":", "=", "!", "&&", "||", "7", "let", "if", "else", "while", "for", "break", "continue", "return", "try", "finally", "true", "false"]
theorem menu_wok : ∀ x ∈ MENU, Wok (cd x) := by
  intro x hx
  simp only [MENU, List.mem_cons, List.not_mem_nil, or_false] at hx
  rcases hx with rfl | rfl | rfl | rfl | rfl | rfl | rfl | rfl | rfl | rfl | rfl | rfl | rfl | rfl | rfl | rfl | rfl | rfl | rfl | rfl | rfl | rfl | rfl
  · exact .sym 40 (by decide +kernel)
  · exact .sym 41 (by decide +kernel)
  · exact .sym 123 (by decide +kernel)
  · exact .sym 125 (by decide +kernel)
  · exact .sym 59 (by decide +kernel)
  · exact .sym 58 (by decide +kernel)
  · exact .sym 61 (by decide +kernel)
  · exact .sym 33 (by decide +kernel)
  · exact .amp
  · exact .bar
  · exact .num1 55 (by decide +kernel)
  · exact (pw_kw "let" (by decide +kernel)).2.2.2.2
  · exact wok_of ⟨105, by decide +kernel, by decide +kernel⟩ (by unfold AW; decide +kernel) (by decide +kernel)
  · exact (pw_k0 "else" (by decide +kernel)).2.2.2.2
  · exact wok_of ⟨119, by decide +kernel, by decide +kernel⟩ (by unfold AW; decide +kernel) (by decide +kernel)
  · exact (pw_kw "for" (by decide +kernel)).2.2.2.2
  · exact (pw_kw "break" (by decide +kernel)).2.2.2.2
  · exact (pw_kw "continue" (by decide +kernel)).2.2.2.2
  · exact (pw_kw "return" (by decide +kernel)).2.2.2.2
  · exact (pw_kw "try" (by decide +kernel)).2.2.2.2
  · exact (pw_k0 "finally" (by decide +kernel)).2.2.2.2
  · exact (pw_k0 "true" (by decide +kernel)).2.2.2.2
  · exact (pw_k0 "false" (by decide +kernel)).2.2.2.2
def AllW (ws : List Str) : Prop := ∀ x ∈ ws, Wok (cd x)
theorem AllW.app {u v : List Str} (a : AllW u) (b : AllW v) : AllW (u ++ v) := fun x hx => (List.mem_append.mp hx).elim (a x) (b x)
theorem AllW.take {u : List Str} (a : AllW u) (n : Nat) : AllW (u.take n) := fun x hx => a x (List.mem_of_mem_take hx)
theorem AllW.drop {u : List Str} (a : AllW u) (n : Nat) : AllW (u.drop n) := fun x hx => a x (List.mem_of_mem_drop hx)
def spSpl : Sp := fun vs H Q _ => ∃ (a s l : Addr) (nm : Str) (W : List Str), vs = [.ref a, .ref l, .str nm] ∧ TpS H a s ∧ H l = some (.lst (W.map V.str)) ∧ AllW W ∧ Wok (cd nm) ∧ W.length ≤ 100000 ∧
  ∀ H' r ws, Fr [a] H H' → TpS H' a s → H' r = some (.lst (ws.map V.str)) → Er W ws → AllW ws → ws.length ≤ W.length + 1 → Q (.ref r) H'
def tspT (K : PySem.W.Frag) : TS :=
  (tSeq (tIfS (tTest (tOp rEq (tVar 6) (tC (.int 0)))) (tRet (tOp rCat (tSl (rSlL K) (tVar 1) tNoPart (tPart (tVar 3))) (tSl (rSlL K) (tVar 1) (tPart (tOp rAddI (tVar 3) (tC (.int 1)))) tNoPart))) tNext)
  (tSeq (tIfS (tTest (tOp rEq (tVar 6) (tC (.int 1)))) (tRet (tOp rCat (tOp rCat (tSl (rSlL K) (tVar 1) tNoPart (tPart (tVar 3))) (tSl (rSlL K) (tVar 1) (tPart (tVar 3)) (tPart (tOp rAddI (tVar 3) (tC (.int 1)))))) (tSl (rSlL K) (tVar 1) (tPart (tVar 3)) tNoPart))) tNext)
  (tSeq (tIfS (tTest (tOp rEq (tVar 6) (tC (.int 2)))) (tRet (tOp rCat (tOp rCat (tOp rCat (tSl (rSlL K) (tVar 1) tNoPart (tPart (tVar 3))) (tSl (rSlL K) (tVar 1) (tPart (tOp rAddI (tVar 3) (tC (.int 1)))) (tPart (tOp rAddI (tVar 3) (tC (.int 2)))))) (tSl (rSlL K) (tVar 1) (tPart (tVar 3)) (tPart (tOp rAddI (tVar 3) (tC (.int 1)))))) (tSl (rSlL K) (tVar 1) (tPart (tOp rAddI (tVar 3) (tC (.int 2)))) tNoPart))) tNext)
  (tSeq (tIfS (tTest (tOp rEq (tVar 6) (tC (.int 3)))) (tRet (tSl (rSlL K) (tVar 1) tNoPart (tPart (tVar 3)))) tNext)
  (tSeq (tIfS (tTest (tOp rEq (tVar 6) (tC (.int 4)))) (tRet (tOp rCat (tOp rCat (tSl (rSlL K) (tVar 1) tNoPart (tPart (tVar 3))) (tLst (tCons (tVar 5) tNil))) (tSl (rSlL K) (tVar 1) (tPart (tVar 3)) tNoPart))) tNext)
  (tRet (tOp rCat (tOp rCat (tSl (rSlL K) (tVar 1) tNoPart (tPart (tVar 3))) (tLst (tCons (tVar 5) tNil))) (tSl (rSlL K) (tVar 1) (tPart (tOp rAddI (tVar 3) (tC (.int 1)))) tNoPart))))))))
section
variable {wd : World} {K : PySem.W.Frag} {mg : Str → Option Value} {base : Heap} {w : Rw}
theorem spoilt_t {a s l : Addr} {W : List Str} {H H4 : Hp} {σ : L2.St} {p c : Nat} {word : Str} {D : Ends} (hz : W.length ≤ 100000) (F : Fr [a] H H4) (t4 : TpS H4 a s) (hl4 : H4 l = some (.lst (W.map V.str))) (hw : AllW W) (hwd : Wok (cd word))
    (s1 : σ[1]? = some (some (.ref l))) (s3 : σ[3]? = some (some (.int (p : Int)))) (s5 : σ[5]? = some (some (.str word))) (s6 : σ[6]? = some (some (.int (c : Int))))
    (q : ∀ H' r ws, Fr [a] H H' → TpS H' a s → H' r = some (.lst (ws.map V.str)) → Er W ws → AllW ws → ws.length ≤ W.length + 1 → D.rt (.ref r) H') : tspT K D σ H4 := by
  have noP : ∀ (H : Hp) (Q : Option Int → Hp → Prop), Q none H → tNoPart σ H Q := fun _ _ h => h
  have atP : ∀ (H : Hp) (Q : Option Int → Hp → Prop), Q (some (p : Int)) H → tPart (tVar 3) σ H Q := fun _ _ h => ⟨_, s3, _, rfl, h⟩
  have atJ : ∀ (j : Nat) (H : Hp) (Q : Option Int → Hp → Prop), Q (some ((p + j : Nat) : Int)) H → tPart (tOp rAddI (tVar 3) (tC (.int (j : Int)))) σ H Q := fun j _ _ h => ⟨_, s3, _, _, rfl, rfl, _, rfl, (by rw [show (p : Int) + (j : Int) = ((p + j : Nat) : Int) by omega]; exact h)⟩
  have cTo : Say a s σ H4 (tSl (rSlL K) (tVar 1) tNoPart (tPart (tVar 3))) (· = W.take p) := Say.cut t4 s1 hl4 noP atP (by rw [cutV_to, List.map_take])
  have cFrom : Say a s σ H4 (tSl (rSlL K) (tVar 1) (tPart (tVar 3)) tNoPart) (· = W.drop p) := Say.cut t4 s1 hl4 atP noP (by rw [cutV_from, List.map_drop])
  have cF1 : Say a s σ H4 (tSl (rSlL K) (tVar 1) (tPart (tOp rAddI (tVar 3) (tC (.int 1)))) tNoPart) (· = W.drop (p + 1)) := Say.cut t4 s1 hl4 (atJ 1) noP (by rw [cutV_from, List.map_drop])
  have cF2 : Say a s σ H4 (tSl (rSlL K) (tVar 1) (tPart (tOp rAddI (tVar 3) (tC (.int 2)))) tNoPart) (· = W.drop (p + 2)) := Say.cut t4 s1 hl4 (atJ 2) noP (by rw [cutV_from, List.map_drop])
  have cM1 : Say a s σ H4 (tSl (rSlL K) (tVar 1) (tPart (tVar 3)) (tPart (tOp rAddI (tVar 3) (tC (.int 1))))) (· = (W.drop p).take 1) := Say.cut t4 s1 hl4 atP (atJ 1) (by rw [cutV_mid _ (by omega), List.map_take, List.map_drop, show p + 1 - p = 1 by omega])
  have cM2 : Say a s σ H4 (tSl (rSlL K) (tVar 1) (tPart (tOp rAddI (tVar 3) (tC (.int 1)))) (tPart (tOp rAddI (tVar 3) (tC (.int 2))))) (· = (W.drop (p + 1)).take 1) := Say.cut t4 s1 hl4 (atJ 1) (atJ 2) (by rw [cutV_mid _ (by omega), List.map_take, List.map_drop, show p + 2 - (p + 1) = 1 by omega])
  have cW : Say a s σ H4 (tLst (tCons (tVar 5) tNil)) (· = [word]) := by
    intro H2 f2 t2 Q q
    refine ⟨_, s5, one_le, fun p hp => ?_⟩
    have fn : Fr [] H2 (upd H2 p (.lst [.str word])) := Fr.new hp
    exact q _ p [word] (fn.mono (by simp)) (t2.fr0 fn) upd_same rfl
  have l1 : (W.take p).length ≤ W.length := by rw [List.length_take]; omega
  have l2 : ∀ k, (W.drop k).length ≤ W.length := fun k => by rw [List.length_drop]; omega
  have l3 : ∀ k, ((W.drop k).take 1).length ≤ 1 := fun k => by rw [List.length_take]; omega
  have big : ∀ {u v : List Str}, u = v → v.length ≤ 300000 → u.length ≤ 400000 := fun e h => by rw [e]; omega
  have big2 : ∀ {u a b : List Str}, (∃ x y, u = x ++ y ∧ x = a ∧ y = b) → a.length + b.length ≤ 300000 → u.length ≤ 400000 := fun ⟨x, y, e, e1, e2⟩ h => by rw [e, e1, e2, List.length_append]; omega
  have big3 : ∀ {u a b d : List Str}, (∃ x y, u = x ++ y ∧ (∃ x' y', x = x' ++ y' ∧ x' = a ∧ y' = b) ∧ y = d) → a.length + b.length + d.length ≤ 300000 → u.length ≤ 400000 := fun ⟨x, y, e, ⟨x', y', e1, e2, e3⟩, e4⟩ h => by rw [e, e1, e2, e3, e4, List.length_append, List.length_append]; omega
  -- what comes out
  have out : ∀ {te : TE} {us : List Str}, Say a s σ H4 te (· = us) → Er W us → AllW us → us.length ≤ W.length + 1 → te σ H4 D.rt := fun {te us} S e aw hl => S H4 Fr.refl t4 D.rt fun H5 r us' f5 t5 e5 r5 => q H5 r us' (F.trans f5) t5 e5 (r5 ▸ e) (r5 ▸ aw) (r5 ▸ hl)
  have wk : AllW [word] := fun x hx => by rw [List.mem_singleton.mp hx]; exact hwd
  have tl := List.length_take (l := W) (i := p)
  have dl := fun k => List.length_drop (l := W) (i := k)
  refine ⟨_, s6, rfl, _, rfl, iteB (fun _ => ?_) fun _ => ?_⟩
  · refine out (us := W.take p ++ W.drop (p + 1)) ((cTo.cat cF1 (fun us e => big e (by omega)) (fun us e => big e (by have := l2 (p + 1); omega))).mono fun us ⟨x, y, e, e1, e2⟩ => by rw [e, e1, e2]) (er_del W p) ((hw.take p).app (hw.drop _)) ?_
    rw [List.length_append, tl, dl]
    omega
  refine ⟨_, s6, rfl, _, rfl, iteB (fun _ => ?_) fun _ => ?_⟩
  · refine out (us := W.take p ++ (W.drop p).take 1 ++ W.drop p) (((cTo.cat cM1 (fun us e => big e (by omega)) (fun us e => big e (by have := l3 p; omega))).cat cFrom (fun us e => big2 e (by have := l3 p; omega)) (fun us e => big e (by have := l2 p; omega))).mono fun us ⟨x, y, e, ⟨x', y', e3, e4, e5⟩, e2⟩ => by rw [e, e3, e4, e5, e2]) (er_put W p _ (l3 p)) (((hw.take p).app ((hw.drop p).take 1)).app (hw.drop _)) ?_
    have := l3 p
    rw [List.length_append, List.length_append, tl, dl]
    omega
  refine ⟨_, s6, rfl, _, rfl, iteB (fun _ => ?_) fun _ => ?_⟩
  · refine out (us := W.take p ++ (W.drop (p + 1)).take 1 ++ (W.drop p).take 1 ++ W.drop (p + 2)) ((((cTo.cat cM2 (fun us e => big e (by omega)) (fun us e => big e (by have := l3 (p + 1); omega))).cat cM1 (fun us e => big2 e (by have := l3 (p + 1); omega)) (fun us e => big e (by have := l3 p; omega))).cat cF2 (fun us e => big3 e (by have := l3 (p + 1); have := l3 p; omega)) (fun us e => big e (by have := l2 (p + 2); omega))).mono fun us ⟨x, y, e, ⟨x', y', e3, ⟨x2, y2, e6, e7, e8⟩, e5⟩, e2⟩ => by rw [e, e3, e6, e7, e8, e5, e2]) (er_swp W p) ((((hw.take p).app ((hw.drop _).take 1)).app ((hw.drop p).take 1)).app (hw.drop _)) ?_
    rw [List.length_append, List.length_append, List.length_append, List.length_take (l := W.drop (p + 1)), List.length_take (l := W.drop p), tl, dl, dl, dl]
    omega
  refine ⟨_, s6, rfl, _, rfl, iteB (fun _ => ?_) fun _ => ?_⟩
  · exact out (us := W.take p) cTo (er_cut W p) (hw.take p) (by omega)
  refine ⟨_, s6, rfl, _, rfl, iteB (fun _ => ?_) fun _ => ?_⟩
  · refine out (us := W.take p ++ [word] ++ W.drop p) (((cTo.cat cW (fun us e => big e (by omega)) (fun us e => big e (by simp))).cat cFrom (fun us e => big2 e (by simp; omega)) (fun us e => big e (by have := l2 p; omega))).mono fun us ⟨x, y, e, ⟨x', y', e3, e4, e5⟩, e2⟩ => by rw [e, e3, e4, e5, e2]) (er_put W p _ (Nat.le_refl _)) (((hw.take p).app wk).app (hw.drop _)) ?_
    rw [List.length_append, List.length_append, tl, dl, List.length_singleton]
    omega
  · refine out (us := W.take p ++ [word] ++ W.drop (p + 1)) (((cTo.cat cW (fun us e => big e (by omega)) (fun us e => big e (by simp))).cat cF1 (fun us e => big2 e (by simp; omega)) (fun us e => big e (by have := l2 (p + 1); omega))).mono fun us ⟨x, y, e, ⟨x', y', e3, e4, e5⟩, e2⟩ => by rw [e, e3, e4, e5, e2]) (er_set W p _ (Nat.le_refl _)) (((hw.take p).app wk).app (hw.drop _)) ?_
    rw [List.length_append, List.length_append, tl, dl, List.length_singleton]
    omega
theorem pure_spoilt (vs : List V) (H : Hp) (Q : VK) (E : XK) (h : spSpl vs H Q E) : t_l_spoilt_words K E { nx := fun _ H' => Q .non H', rt := Q } (start N_l_spoilt_words vs) H := by
  obtain ⟨a, s, l, nm, W, rfl, T0, hl, hw, hnm, hz, q⟩ := h
  have wl : (W.map V.str).length = W.length := List.length_map _
  refine ⟨_, rfl, _, rfl, l, _, rfl, .inl (sqL hl), _, _, rfl, rfl, a, s, W.length + 1, congrArg (fun z => [V.ref a, V.int z]) (by omega), by omega, T0, fun H1 p f1 t1 hp => ?_⟩
  refine ⟨_, rfl, (show 24 ≤ sizeLine by decide), fun lm hlm => ?_⟩
  have f2 : Fr [] H1 (upd H1 lm (.lst ((nm :: MENU).map V.str))) := Fr.new hlm
  have nm2 := t1.nea hlm
  refine ⟨_, rfl, ?_⟩
  refine g_draw 24 rfl (t1.fr0 f2) fun H3 r f3 t3 hr => ?_
  have lt : r < (nm :: MENU).length := by show r < 24; omega
  have ew : ((nm :: MENU).map V.str)[r]? = some (.str (nm :: MENU)[r]) := by rw [List.getElem?_map, List.getElem?_eq_getElem lt]; rfl
  have hwd : Wok (cd (nm :: MENU)[r]) := by
    rcases List.mem_cons.mp (List.getElem_mem lt) with e | e
    · rw [e]
      exact hnm
    · exact menu_wok _ e
  generalize (nm :: MENU)[r] = word at ew hwd
  refine ⟨lm, _, _, _, rfl, rfl, sqL (f3.oth _ _ upd_same (by simpa using nm2.1)), atI_nat ew, ?_⟩
  refine g_draw 7 rfl t3 fun H4 c f4 t4 hc => ?_
  have F : Fr [a] H H4 := f1.trans ((f2.mono (by simp)).trans (f3.trans f4))
  have hl4 := F.oth _ _ hl (by simpa using tps_ne T0 hl)
  exact spoilt_t hz F t4 hl4 hw hwd rfl rfl rfl rfl q
theorem ok_spoilt (T : Txt K mg) : CalS R0 wd K mg base 2 "_law_spoilt_words" spSpl := by
  refine cal_s T.d_l_spoilt_words T.g_l_spoilt_words sc_l_spoilt_words (fun _ _ _ _ _ _ us hl => match us, hl with | [_, _, _], _ => rfl) (fun vs H Q E h => ?_) (fun cdv A outer s H vs Q E hr h => ⟨t_l_spoilt_words K E, ?_, pure_spoilt vs H Q E h⟩)
  · obtain ⟨a, s, l, nm, W, rfl, _⟩ := h
    rfl
  · exact (pss_cons (ps_set (i := 3) sc_l_spoilt_words.nd rfl (Or.inl rfl) (pc (ok_draw T) hr (by omega) passE rfl (pa_cons (pv 0) (pa_cons (pe_op op_add (pe_callB call_len_seq rfl T.f_len (by decide +kernel) (pa_cons (pv 1) pa_nil)) pe_int) pa_nil))))
      (pss_cons (ps_set (i := 4) sc_l_spoilt_words.nd rfl (Or.inl rfl) (pe_lst (pa_cons (pv 2) (pa_cons pe_str (pa_cons pe_str (pa_cons pe_str (pa_cons pe_str (pa_cons pe_str (pa_cons pe_str (pa_cons pe_str (pa_cons pe_str (pa_cons pe_str (pa_cons pe_str (pa_cons pe_str (pa_cons pe_str (pa_cons pe_str (pa_cons pe_str (pa_cons pe_str (pa_cons pe_str (pa_cons pe_str (pa_cons pe_str (pa_cons pe_str (pa_cons pe_str (pa_cons pe_str (pa_cons pe_str (pa_cons pe_str pa_nil))))))))))))))))))))))))))
      (pss_cons (ps_set (i := 5) sc_l_spoilt_words.nd rfl (Or.inl rfl) (pe_ix ix_list (pv 4) (pc (ok_draw T) hr (by omega) passE rfl (pa_cons (pv 0) (pa_cons pe_int pa_nil))) (fun _ _ => rfl)))
      (pss_cons (ps_set (i := 6) sc_l_spoilt_words.nd rfl (Or.inl rfl) (pc (ok_draw T) hr (by omega) passE rfl (pa_cons (pv 0) (pa_cons pe_int pa_nil))))
      (pss_cons (ps_if (pt_cmpR op_eq (pv 6) pe_int (nomark _)) (pss_one (ps_ret (pe_op op_cat (pe_slice sl_list (pv 1) po_none (po_some (pv 3))) (pe_slice sl_list (pv 1) (po_some (pe_op op_add (pv 3) pe_int)) po_none)))) pss_nil)
      (pss_cons (ps_if (pt_cmpR op_eq (pv 6) pe_int (nomark _)) (pss_one (ps_ret (pe_op op_cat (pe_op op_cat (pe_slice sl_list (pv 1) po_none (po_some (pv 3))) (pe_slice sl_list (pv 1) (po_some (pv 3)) (po_some (pe_op op_add (pv 3) pe_int)))) (pe_slice sl_list (pv 1) (po_some (pv 3)) po_none)))) pss_nil)
      (pss_cons (ps_if (pt_cmpR op_eq (pv 6) pe_int (nomark _)) (pss_one (ps_ret (pe_op op_cat (pe_op op_cat (pe_op op_cat (pe_slice sl_list (pv 1) po_none (po_some (pv 3))) (pe_slice sl_list (pv 1) (po_some (pe_op op_add (pv 3) pe_int)) (po_some (pe_op op_add (pv 3) pe_int)))) (pe_slice sl_list (pv 1) (po_some (pv 3)) (po_some (pe_op op_add (pv 3) pe_int)))) (pe_slice sl_list (pv 1) (po_some (pe_op op_add (pv 3) pe_int)) po_none)))) pss_nil)
      (pss_cons (ps_if (pt_cmpR op_eq (pv 6) pe_int (nomark _)) (pss_one (ps_ret (pe_slice sl_list (pv 1) po_none (po_some (pv 3))))) pss_nil)
      (pss_cons (ps_if (pt_cmpR op_eq (pv 6) pe_int (nomark _)) (pss_one (ps_ret (pe_op op_cat (pe_op op_cat (pe_slice sl_list (pv 1) po_none (po_some (pv 3))) (pe_lst (pa_cons (pv 5) pa_nil))) (pe_slice sl_list (pv 1) (po_some (pv 3)) po_none)))) pss_nil)
      (pss_one (ps_ret (pe_op op_cat (pe_op op_cat (pe_slice sl_list (pv 1) po_none (po_some (pv 3))) (pe_lst (pa_cons (pv 5) pa_nil))) (pe_slice sl_list (pv 1) (po_some (pe_op op_add (pv 3) pe_int)) po_none)))))))))))))
end
end K18

/-! WC: words spaced -/
namespace K18
open PySem PySem.Spec L2
open PyProof.Rows hiding St
abbrev N_l_spaced : List Str := ["_law_tape_here", "_law_words", "_law_signs", "_law_blanks", "_law_text", "_law_places", "_law_k", "_law_gap"]
theorem sc_l_spaced : FnScope N_l_spaced ["_law_tape_here", "_law_words"] (defScope s_l_spaced) := ⟨rfl, rfl, rfl, by decide +kernel, rfl, by decide +kernel, by decide +kernel⟩
def t_l_spaced (K : PySem.W.Frag) (E : XK)  : TS :=
  (tSeq (tAsg (tC (.str "abcdefghijklmnopqrstuvwxyzABCDEFGHIJKLMNOPQRSTUVWXYZ0123456789_")) (gName 2))
  (tSeq (tAsg (tOp (rIxL K) (tLst (tCons (tLst (tCons (tC (.str "")) (tCons (tC (.str "")) (tCons (tC (.str "")) (tCons (tC (.str " ")) (tCons (tC (.str " ")) (tCons (tC (.str "\n")) (tCons (tC (.str "\t")) (tCons (tC (.str "  ")) (tCons (tC (.str " \n\t ")) tNil)))))))))) (tCons (tOp rRep (tLst (tCons (tC (.str "")) tNil)) (tC (.int 9))) (tCons (tOp rRep (tLst (tCons (tC (.str " ")) tNil)) (tC (.int 9))) tNil)))) (tCal spDraw E (tCons (tVar 0) (tCons (tC (.int 3)) tNil)))) (gName 3))
  (tSeq (tAsg (tOp (rIxL K) (tVar 3) (tCal spDraw E (tCons (tVar 0) (tCons (tC (.int 9)) tNil)))) (gName 4))
  (tSeq (tAsg (tLst tNil) (gName 5))
  (tSeq (tFor (iRng1 (tCons (tCB (rLenQ K) (tCons (tVar 1) tNil)) tNil)) (gName 6) (tSeq (tAsg (tOp (rIxL K) (tVar 3) (tCal spDraw E (tCons (tVar 0) (tCons (tC (.int 9)) tNil)))) (gName 7))
  (tSeq (tIfS (tAnd (tTest (tOp rGtI (tVar 6) (tC (.int 0)))) (tAnd (tTest (tOp rEq (tVar 7) (tC (.str "")))) (tAnd (tTest (tOp rInS (tSl rSlS (tOp (rIxL K) (tVar 1) (tOp rSubI (tVar 6) (tC (.int 1)))) (tPart (tUn rNegI (tC (.int 1)))) tNoPart) (tVar 2))) (tTest (tOp rInS (tSl rSlS (tOp (rIxL K) (tVar 1) (tVar 6)) tNoPart (tPart (tC (.int 1)))) (tVar 2)))))) (tAsg (tC (.str " ")) (gName 7)) tNext)
  (tSeq (tIfS (tTest (tOp rGtI (tVar 6) (tC (.int 0)))) (tAsg (tOp rAddT (tVar 4) (tVar 7)) (gName 4)) tNext)
  (tSeq (tDrop (tBM K "list" rAppend (tVar 5) (tCons (tCB rLenT (tCons (tVar 4) tNil)) tNil)))
  (tAsg (tOp rAddT (tVar 4) (tOp (rIxL K) (tVar 1) (tVar 6))) (gName 4)))))))
  (tRet (tLst (tCons (tOp rAddT (tVar 4) (tOp (rIxL K) (tVar 3) (tCal spDraw E (tCons (tVar 0) (tCons (tC (.int 9)) tNil))))) (tCons (tVar 5) tNil)))))))))
/-! ### rows of words laid out from the left -/
def Blk (g : List Nat) : Prop := ∀ c ∈ g, inS BK c = true
theorem Lay.pre {p : Nat} {b r : List Nat} {ws : List Str} {ps : List Nat} (hb : Blk b) (h : Lay (p + b.length) r ws ps) : Lay p (b ++ r) ws ps := by
  cases h with
  | nil hg => exact .nil fun c hc => (List.mem_append.mp hc).elim (hb c) (hg c)
  | @cons _ g r' w ws ps hg hw hs hl =>
    have z := Lay.cons (p := p) (g := b ++ g) (r := r') (w := w) (ws := ws) (ps := ps) (fun c hc => (List.mem_append.mp hc).elim (hb c) (hg c)) hw hs (by
      rw [List.length_append, ← Nat.add_assoc]
      exact hl)
    rw [List.length_append, ← Nat.add_assoc, List.append_assoc] at z
    exact z
/-- text T holds the words ws at ps, and may go on -/
def LayK (T : List Nat) (ws : List Str) (ps : List Nat) : Prop := ∀ r w2 p2, Lay T.length r w2 p2 → (∀ w, ws.getLast? = some w → Stop (cd w) r) → Lay 0 (T ++ r) (ws ++ w2) (ps ++ p2)
theorem LayK.nil {T : List Nat} (h : Blk T) : LayK T [] [] := fun r w2 p2 hl _ => Lay.pre h (by rw [Nat.zero_add]; exact hl)
theorem bk_wc : ∀ c ∈ cd BK, inS WC c = false := by decide +kernel
theorem blk_head {g r : List Nat} (h : Blk g) (hg : g ≠ []) : ∀ c, (g ++ r).head? = some c → inS WC c = false := by
  intro c e
  cases g with
  | nil => exact absurd rfl hg
  | cons x t =>
    cases e
    exact bk_wc _ (inS_mem (h _ (List.mem_cons_self ..)))
theorem LayK.snoc {T g : List Nat} {ws : List Str} {ps : List Nat} {w : Str} (L : LayK T ws ps) (hg : Blk g) (hw : Wok (cd w)) (hs : g = [] → ∀ v, ws.getLast? = some v → ∀ c d, (cd w).head? = some c → (cd v).getLast? = some d → inS WC d = true → inS WC c = false) : LayK (T ++ g ++ cd w) (ws ++ [w]) (ps ++ [T.length + g.length]) := by
  intro r w2 p2 hl hst
  have h1 : Stop (cd w) r := hst w (by simp)
  rw [List.length_append, List.length_append] at hl
  have h2 := Lay.cons (p := T.length) (g := g) hg hw h1 hl
  have h3 := L (g ++ (cd w ++ r)) (w :: w2) ((T.length + g.length) :: p2) h2 (fun v hv c d hc hd hwc => ?_)
  · have e1 : T ++ g ++ cd w ++ r = T ++ (g ++ (cd w ++ r)) := by simp [List.append_assoc]
    have e2 : ws ++ [w] ++ w2 = ws ++ w :: w2 := by simp
    have e3 : ps ++ [T.length + g.length] ++ p2 = ps ++ (T.length + g.length) :: p2 := by simp
    rw [e1, e2, e3]
    exact h3
  · cases g with
    | nil =>
      obtain ⟨x, t, e, _⟩ := hw.head
      rw [List.nil_append, e] at hc
      cases hc
      exact hs rfl v hv _ d (by rw [e]; rfl) hd hwc
    | cons x t => exact blk_head hg (by simp) c hc
theorem LayK.fin {T g : List Nat} {ws : List Str} {ps : List Nat} (L : LayK T ws ps) (hg : Blk g) : Lay 0 (T ++ g) ws ps := by
  have h := L g [] [] (.nil hg) fun w _ c d hc _ _ => by
    cases g with
    | nil => cases hc
    | cons x t => exact blk_head (r := []) hg (by simp) c (by simpa using hc)
  rw [List.append_nil, List.append_nil] at h
  exact h
/-- the last sign, the first sign -/
theorem cut_last {z : Str} {d : Nat} (h : (cd z).getLast? = some d) : cutS z (some (-1)) none = ⟨#[d]⟩ := by
  obtain ⟨r, e⟩ := List.getLast?_eq_some_iff.mp h
  unfold cutS
  have l : z.length = r.length + 1 := by rw [str_len, e, List.length_append, List.length_singleton]
  have s1 : HT.sIx z.length 0 (some (-1)) = r.length := by
    show (if (-1 : Int) < 0 then ((-1 : Int) + (z.length : Int)).toNat else min (-1 : Int).toNat z.length) = _
    rw [if_pos (by decide), l]
    omega
  have e' : z.cps.toList = r ++ [d] := e
  rw [s1, HT.sIx_none, e', List.drop_left, List.take_of_length_le (by rw [l]; simp)]
theorem cut_first {z : Str} {c : Nat} (h : (cd z).head? = some c) : cutS z none (some (1 : Int)) = ⟨#[c]⟩ := by
  unfold cutS
  obtain ⟨r, e⟩ : ∃ r, cd z = c :: r := by
    generalize cd z = q at h
    cases q with
    | nil => cases h
    | cons x r =>
      cases h
      exact ⟨r, rfl⟩
  have l : z.length = r.length + 1 := by rw [str_len, e, List.length_cons]
  have s1 : HT.sIx z.length z.length (some (1 : Int)) = 1 := by
    have := HT.sIx_nat z.length z.length 1
    rw [show ((1 : Nat) : Int) = (1 : Int) from rfl] at this
    rw [this, l]
    omega
  have e' : z.cps.toList = c :: r := e
  rw [s1, HT.sIx_none, e']
  rfl
/-- nine gaps -/
def Gaps (B : List Str) : Prop := B.length = 9 ∧ ∀ g ∈ B, Blk (cd g) ∧ g.length ≤ 4
def G1s : List Str := ["", "", "", " ", " ", "\n", "\t", "  ", " \n\t "]
theorem gaps1 : Gaps G1s := ⟨rfl, by unfold Blk; decide +kernel⟩
theorem gaps2 : Gaps (List.replicate 9 "") := ⟨rfl, by unfold Blk; decide +kernel⟩
theorem gaps3 : Gaps (List.replicate 9 " ") := ⟨rfl, by unfold Blk; decide +kernel⟩
theorem Gaps.at {B : List Str} (h : Gaps B) {r : Nat} (hr : r < max 9 1) : ∃ g, (B.map V.str)[r]? = some (.str g) ∧ Blk (cd g) ∧ g.length ≤ 4 := by
  have lt : r < B.length := by rw [h.1]; omega
  exact ⟨B[r], by rw [List.getElem?_map, List.getElem?_eq_getElem lt]; rfl, h.2 _ (List.getElem_mem lt)⟩
def intL (ps : List Nat) : List V := ps.map fun (p : Nat) => V.int (p : Int)
def spSpc : Sp := fun vs H Q _ => ∃ (a s l : Addr) (W : List Str), vs = [.ref a, .ref l] ∧ TpS H a s ∧ H l = some (.lst (W.map V.str)) ∧ AllW W ∧ W.length ≤ 10000 ∧
  ∀ H' r pl z ps, Fr [a] H H' → TpS H' a s → H' r = some (.lst [.str z, .ref pl]) → H' pl = some (.lst (intL ps)) → Lay 0 (cd z) W ps → z.length ≤ 500000 → Q (.ref r) H'
theorem wok_len {w : Str} (h : Wok (cd w)) : w.length ≤ 30 := by
  rw [str_len]
  generalize cd w = l at h
  cases h with
  | word c r h1 h2 h3 => rw [List.length_cons]; omega
  | num1 c h1 => exact (show 1 ≤ 30 by decide)
  | num2 c d h1 h2 h3 => exact (show 2 ≤ 30 by decide)
  | sym c h1 => exact (show 1 ≤ 30 by decide)
  | amp => exact (show 2 ≤ 30 by decide)
  | bar => exact (show 2 ≤ 30 by decide)
def tspW (K : PySem.W.Frag) (E : XK) : TS := (tSeq (tAsg (tOp (rIxL K) (tVar 3) (tCal spDraw E (tCons (tVar 0) (tCons (tC (.int 9)) tNil)))) (gName 7))
  (tSeq (tIfS (tAnd (tTest (tOp rGtI (tVar 6) (tC (.int 0)))) (tAnd (tTest (tOp rEq (tVar 7) (tC (.str "")))) (tAnd (tTest (tOp rInS (tSl rSlS (tOp (rIxL K) (tVar 1) (tOp rSubI (tVar 6) (tC (.int 1)))) (tPart (tUn rNegI (tC (.int 1)))) tNoPart) (tVar 2))) (tTest (tOp rInS (tSl rSlS (tOp (rIxL K) (tVar 1) (tVar 6)) tNoPart (tPart (tC (.int 1)))) (tVar 2)))))) (tAsg (tC (.str " ")) (gName 7)) tNext)
  (tSeq (tIfS (tTest (tOp rGtI (tVar 6) (tC (.int 0)))) (tAsg (tOp rAddT (tVar 4) (tVar 7)) (gName 4)) tNext)
  (tSeq (tDrop (tBM K "list" rAppend (tVar 5) (tCons (tCB rLenT (tCons (tVar 4) tNil)) tNil)))
  (tAsg (tOp rAddT (tVar 4) (tOp (rIxL K) (tVar 1) (tVar 6))) (gName 4))))))
/-- while words are spaced -/
def SpQ (a s l bl pl : Addr) (B W : List Str) (H : Hp) (k : Nat) : L2.St → Hp → Prop := fun σ H' => ∃ (z : Str) (ps : List Nat) (p6 p7 : Option V), σ = [some (.ref a), some (.ref l), some (.str WC), some (.ref bl), some (.str z), some (.ref pl), p6, p7] ∧ Fr [a] H H' ∧ TpS H' a s ∧ H' bl = some (.lst (B.map V.str)) ∧ H' pl = some (.lst (intL ps)) ∧
  LayK (cd z) (W.take k) ps ∧ ps.length = k ∧ z.length ≤ 4 + 34 * k
section
variable {wd : World} {K : PySem.W.Frag} {mg : Str → Option Value} {base : Heap} {w : Rw}
theorem spaced_l {a s l bl pl : Addr} {B W : List Str} {H H1 : Hp} {k : Nat} {σ : L2.St} {D : Ends} {E : XK} {kv : V} (hB : Gaps B) (T0 : TpS H a s) (hl0 : H l = some (.lst (W.map V.str))) (hpl : H pl = none) (hbp : bl ≠ pl) (hw : AllW W) (hz : W.length ≤ 10000)
    (h : SpQ a s l bl pl B W H k σ H1) (hk : k < W.length) (hD : D.nx = SpQ a s l bl pl B W H (k + 1)) (hkv : kv = .int (k : Int)) : tspW K E D (σ.set 6 (some kv)) H1 := by
  subst hkv
  obtain ⟨z, ps, p6, p7, rfl, F, T1, hb, hp, L, lp, lz⟩ := h
  have npl := T0.nea hpl
  refine ⟨_, rfl, g_draw 9 rfl T1 fun H2 r f2 t2 hr => ?_⟩
  obtain ⟨g, eg, bg, lg⟩ := hB.at hr
  have hb2 := f2.oth _ _ hb (by simpa using tps_ne T1 hb)
  have hp2 := f2.oth _ _ hp (by simpa using npl.1)
  have F2 := F.trans f2
  have hl2 := F2.oth _ _ hl0 (by simpa using tps_ne T0 hl0)
  refine ⟨bl, _, _, _, rfl, rfl, sqL hb2, atI_nat eg, ?_⟩
  have ew : W[k]? = some W[k] := List.getElem?_eq_getElem hk
  generalize W[k] = wd at ew
  have wk : Wok (cd wd) := hw _ (List.mem_of_getElem? ew)
  have wl := wok_len wk
  have ewV : (W.map V.str)[k]? = some (.str wd) := by rw [List.getElem?_map, ew]; rfl
  have tk1 : W.take (k + 1) = W.take k ++ [wd] := by rw [List.take_add_one, ew]; rfl
  -- a gap that is put ahead of the word
  have last : ∀ (z2 : Str) (g2 : List Nat), cd z2 = cd z ++ g2 → Blk g2 → g2.length ≤ 4 → (g2 = [] → ∀ v, (W.take k).getLast? = some v → ∀ c d, (cd wd).head? = some c → (cd v).getLast? = some d → inS WC d = true → inS WC c = false) → ∀ p7,
      (tSeq (tDrop (tBM K "list" rAppend (tVar 5) (tCons (tCB rLenT (tCons (tVar 4) tNil)) tNil)))
        (tAsg (tOp rAddT (tVar 4) (tOp (rIxL K) (tVar 1) (tVar 6))) (gName 4))) D [some (.ref a), some (.ref l), some (.str WC), some (.ref bl), some (.str z2), some (.ref pl), some (.int (k : Int)), p7] H2 := by
    intro z2 g2 e1 hg2 lg2 st p7
    have lz2 : z2.length = z.length + g2.length := by rw [str_len, e1, List.length_append, ← str_len]
    refine ⟨_, rfl, .inl ⟨rfl, _, sqL hp2⟩, _, rfl, z2, rfl, mil (by omega), pl, _, _, rfl, rfl, hp2, mil2 (by rw [intL, List.length_map]; omega), ?_⟩
    have f3 : Fr [pl] H2 (upd H2 pl (.lst (intL ps ++ [.int (z2.length : Int)]))) := Fr.put hp2 (List.mem_singleton.mpr rfl)
    have hl3 := f3.oth _ _ hl2 (by simpa using fun z => by rw [z] at hl0; rw [hl0] at hpl; cases hpl)
    refine ⟨_, rfl, _, rfl, _, rfl, l, _, _, _, rfl, rfl, sqL hl3, atI_nat ewV, z2, wd, rfl, rfl, mil (by omega), ?_⟩
    show D.nx _ _
    rw [hD]
    have F3 : Fr [a] H (upd H2 pl (.lst (intL ps ++ [.int (z2.length : Int)]))) := F2.out hpl
    refine ⟨z2 ++ wd, ps ++ [z2.length], _, _, rfl, F3, t2.fr f3 (by simpa using Ne.symm npl.1) (by simpa using Ne.symm npl.2), f3.oth _ _ hb2 (by simpa using hbp), ?_, ?_, by rw [List.length_append, List.length_singleton, lp], ?_⟩
    · rw [upd_same, intL, intL, List.map_append]
      rfl
    · rw [tk1, cd_app, e1]
      have := L.snoc (w := wd) hg2 wk st
      rw [lz2, str_len]
      exact this
    · rw [len_app, lz2]
      omega
  -- the gap is known
  have mid : ∀ (g2 : Str), Blk (cd g2) → g2.length ≤ 4 → (0 < k → g2 = "" → ∀ v, (W.take k).getLast? = some v → ∀ c d, (cd wd).head? = some c → (cd v).getLast? = some d → inS WC d = true → inS WC c = false) →
      (tSeq (tIfS (tTest (tOp rGtI (tVar 6) (tC (.int 0)))) (tAsg (tOp rAddT (tVar 4) (tVar 7)) (gName 4)) tNext)
        (tSeq (tDrop (tBM K "list" rAppend (tVar 5) (tCons (tCB rLenT (tCons (tVar 4) tNil)) tNil)))
        (tAsg (tOp rAddT (tVar 4) (tOp (rIxL K) (tVar 1) (tVar 6))) (gName 4)))) D [some (.ref a), some (.ref l), some (.str WC), some (.ref bl), some (.str z), some (.ref pl), some (.int (k : Int)), some (.str g2)] H2 := by
    intro g2 b2 l2 st
    refine ⟨_, rfl, _, _, rfl, rfl, _, rfl, iteB (fun c => ?_) fun c => ?_⟩
    · have c' : (0 : Int) < (k : Int) := of_decide_eq_true c
      refine ⟨_, rfl, _, rfl, z, g2, rfl, rfl, mil (by omega), ?_⟩
      refine last (z ++ g2) (cd g2) (cd_app z g2) b2 (by rw [← str_len]; exact l2) (fun e => st (by omega) ?_) _
      exact str_of (l := []) e
    · have c' : ¬ (0 : Int) < (k : Int) := of_decide_eq_false c
      refine last z [] (by rw [List.append_nil]) (fun c h => by simp at h) (by decide) (fun _ v hv => ?_) _
      rw [show k = 0 by omega, List.take_zero] at hv
      cases hv
  refine ⟨_, rfl, _, _, rfl, rfl, _, rfl, iteB (fun c1 => ?_) fun c1 => ?_⟩
  · have c1' : (0 : Int) < (k : Int) := of_decide_eq_true c1
    have ev : W[k - 1]? = some W[k - 1] := List.getElem?_eq_getElem (by omega)
    generalize W[k - 1] = v at ev
    have evV : (W.map V.str)[k - 1]? = some (.str v) := by rw [List.getElem?_map, ev]; rfl
    have lastv : (W.take k).getLast? = some v := by
      rw [List.getLast?_take, if_neg (by omega), ev]
      rfl
    have vk : Wok (cd v) := hw _ (List.mem_of_getElem? ev)
    obtain ⟨c0, r0, ec, _⟩ := wk.head
    obtain ⟨d0, ed⟩ : ∃ d, (cd v).getLast? = some d := by
      obtain ⟨x, t, e, _⟩ := vk.head
      rw [e]
      exact ⟨(x :: t).getLast (by simp), List.getLast?_eq_some_getLast (by simp)⟩
    have hc : (cd wd).head? = some c0 := by rw [ec]; rfl
    refine ⟨_, rfl, rfl, _, rfl, iteB (fun c2 => ?_) fun c2 => ?_⟩
    · have c2' : g = "" := V.str.inj (of_decide_eq_true c2)
      refine ⟨_, rfl, _, rfl, _, _, rfl, rfl, l, _, _, _, rfl, rfl, sqL hl2, (show atI (W.map V.str) ((k : Int) - 1) = some (.str v) by rw [show (k : Int) - 1 = ((k - 1 : Nat) : Int) by omega]; exact atI_nat evV), _, rfl, _, rfl, v, rfl, mil (by have := wok_len vk; omega), _, rfl, d0, WC, congrArg V.str (cut_last ed), rfl, _, rfl, iteB (fun c3 => ?_) fun c3 => ?_⟩
      · refine ⟨_, rfl, _, rfl, l, _, _, _, rfl, rfl, sqL hl2, atI_nat ewV, _, rfl, wd, rfl, mil (by omega), _, rfl, c0, WC, congrArg V.str (cut_first hc), rfl, _, rfl, iteB (fun c4 => ?_) fun c4 => ?_⟩
        · exact mid " " (by unfold Blk; decide +kernel) (by decide +kernel) fun _ e => absurd e (by decide +kernel)
        · refine mid g bg lg fun _ _ v' hv' c d h1 h2 h3 => ?_
          rw [hc] at h1
          cases h1
          exact c4
      · refine mid g bg lg fun _ _ v' hv' c d h1 h2 h3 => ?_
        rw [lastv] at hv'
        cases hv'
        rw [ed] at h2
        cases h2
        unfold inS at h3
        exact absurd (h3.symm.trans c3) (by decide)
    · refine mid g bg lg fun _ e => ?_
      have c2' : ¬ V.str g = V.str "" := of_decide_eq_false c2
      exact absurd (congrArg V.str e) c2'
  · have c1' : ¬ (0 : Int) < (k : Int) := of_decide_eq_false c1
    exact mid g bg lg fun h => absurd h (by omega)
end
end K18

/-! WD: words spaced: the def -/
namespace K18
open PySem PySem.Spec L2
open PyProof.Rows hiding St

section
variable {wd : World} {K : PySem.W.Frag} {mg : Str → Option Value} {base : Heap} {w : Rw}
theorem pure_spaced (vs : List V) (H : Hp) (Q : VK) (E : XK) (h : spSpc vs H Q E) : t_l_spaced K E { nx := fun _ H' => Q .non H', rt := Q } (start N_l_spaced vs) H := by
  obtain ⟨a, s, l, W, rfl, T0, hl, hw, hz, q⟩ := h
  have wl : (W.map V.str).length = W.length := List.length_map _
  -- the three rows of gaps
  refine ⟨(show 9 ≤ sizeLine by decide), fun b1 h1 => ?_⟩
  generalize e1 : upd H b1 _ = A1
  have f1 : Fr [] H A1 := by rw [← e1]; exact Fr.new h1
  have k1 : A1 b1 = some (.lst (G1s.map V.str)) := by rw [← e1]; exact upd_same
  refine ⟨one_le, fun b2 h2 => ?_⟩
  generalize e2 : upd A1 b2 _ = A2
  have f2 : Fr [] A1 A2 := by rw [← e2]; exact Fr.new h2
  have k2 : A2 b2 = some (.lst [.str ""]) := by rw [← e2]; exact upd_same
  have k12 := f2.oth _ _ k1 (by simp)
  have f12 := f1.trans f2
  refine ⟨b2, 9, _, rfl, rfl, k2, by decide, by decide, by decide, fun b3 h3 => ?_⟩
  generalize e3 : upd A2 b3 _ = A3
  have f3 : Fr [] A2 A3 := by rw [← e3]; exact Fr.new h3
  have k3 : A3 b3 = some (.lst ((List.replicate 9 ("" : Str)).map V.str)) := by rw [← e3]; exact upd_same
  have k13 := f3.oth _ _ k12 (by simp)
  have f13 := f12.trans f3
  refine ⟨one_le, fun b4 h4 => ?_⟩
  generalize e4 : upd A3 b4 _ = A4
  have f4 : Fr [] A3 A4 := by rw [← e4]; exact Fr.new h4
  have k4 : A4 b4 = some (.lst [.str " "]) := by rw [← e4]; exact upd_same
  have k14 := f4.oth _ _ k13 (by simp)
  have k34 := f4.oth _ _ k3 (by simp)
  have f14 := f13.trans f4
  refine ⟨b4, 9, _, rfl, rfl, k4, by decide, by decide, by decide, fun b5 h5 => ?_⟩
  generalize e5 : upd A4 b5 _ = A5
  have f5 : Fr [] A4 A5 := by rw [← e5]; exact Fr.new h5
  have k5 : A5 b5 = some (.lst ((List.replicate 9 (" " : Str)).map V.str)) := by rw [← e5]; exact upd_same
  have k15 := f5.oth _ _ k14 (by simp)
  have k35 := f5.oth _ _ k34 (by simp)
  have f15 := f14.trans f5
  refine ⟨three_le, fun b6 h6 => ?_⟩
  generalize e6 : upd A5 b6 _ = A6
  have f6 : Fr [] A5 A6 := by rw [← e6]; exact Fr.new h6
  have k6 : A6 b6 = some (.lst [.ref b1, .ref b3, .ref b5]) := by rw [← e6]; exact upd_same
  have k16 := f6.oth _ _ k15 (by simp)
  have k36 := f6.oth _ _ k35 (by simp)
  have k56 := f6.oth _ _ k5 (by simp)
  have f16 := f15.trans f6
  have n6 := (T0.fr0 f15).nea h6
  have T6 := T0.fr0 f16
  refine g_draw 3 rfl T6 fun H1 r f7 t1 hr => ?_
  have hb : ∃ bl B, ([.ref b1, .ref b3, .ref b5] : List V)[r]? = some (.ref bl) ∧ A6 bl = some (.lst (B.map V.str)) ∧ Gaps B := by
    match r, hr with
    | 0, _ => exact ⟨b1, G1s, rfl, k16, gaps1⟩
    | 1, _ => exact ⟨b3, _, rfl, k36, gaps2⟩
    | 2, _ => exact ⟨b5, _, rfl, k56, gaps3⟩
  obtain ⟨bl, B, eb, kb, hB⟩ := hb
  refine ⟨b6, _, _, _, rfl, rfl, sqL (f7.oth _ _ k6 (by simpa using n6.1)), atI_nat eb, ?_⟩
  have kb1 := f7.oth _ _ kb (by simpa using tps_ne T6 kb)
  have F1 : Fr [a] H H1 := (f16.mono (by simp)).trans f7
  refine ⟨_, rfl, g_draw 9 rfl t1 fun H2 r2 f8 t2 hr2 => ?_⟩
  obtain ⟨g, eg, bg, lg⟩ := hB.at hr2
  have kb2 := f8.oth _ _ kb1 (by simpa using tps_ne t1 kb1)
  refine ⟨bl, _, _, _, rfl, rfl, sqL kb2, atI_nat eg, ?_⟩
  have F2 := F1.trans f8
  refine ⟨Nat.zero_le _, fun pl hpl => ?_⟩
  have npl := t2.nea hpl
  have h0 : H pl = none := F2.none_of hpl (by simpa using npl.1)
  have f9 : Fr [] H2 (upd H2 pl (.lst [])) := Fr.new hpl
  have hbp : bl ≠ pl := fun z => by rw [z, hpl] at kb2; cases kb2
  have F3 := F2.trans (f9.mono (by simp) : Fr [a] H2 (upd H2 pl (.lst [])))
  have hl3 := F3.oth _ _ hl (by simpa using tps_ne T0 hl)
  refine ⟨_, rfl, l, _, rfl, .inl (sqL hl3), _, rfl, by omega, by omega, ?_⟩
  rw [show (((W.map V.str).length : Int)).toNat = W.length by omega]
  refine for_range (SpQ a s l bl pl B W H) ⟨g, [], none, none, rfl, F3, t2.fr0 f9, f9.oth _ _ kb2 (by simp), upd_same, LayK.nil bg, rfl, by omega⟩ ?_ ?_
  · intro i σ H' hi h
    exact spaced_l hB T0 hl h0 hbp hw hz h hi rfl (congrArg V.int (by omega))
  · rintro σ H4 ⟨z, ps, p6, p7, rfl, F4, t4, hb4, hp4, L, lp, lz⟩
    rw [List.take_length] at L
    refine ⟨_, rfl, _, rfl, g_draw 9 rfl t4 fun H5 r3 f5 t5 hr3 => ?_⟩
    obtain ⟨g3, eg3, bg3, lg3⟩ := hB.at hr3
    have hb5 := f5.oth _ _ hb4 (by simpa using tps_ne t4 hb4)
    refine ⟨bl, _, _, _, rfl, rfl, sqL hb5, atI_nat eg3, z, g3, rfl, rfl, mil (by omega), _, rfl, two_le, fun rr hrr => ?_⟩
    have fn : Fr [] H5 (upd H5 rr (.lst [.str (z ++ g3), .ref pl])) := Fr.new hrr
    have hp5 := f5.oth _ _ hp4 (by simpa using npl.1)
    refine q _ rr pl (z ++ g3) ps ((F4.trans f5).trans (fn.mono (by simp))) (t5.fr0 fn) upd_same (fn.oth _ _ hp5 (by simp)) ?_ (by rw [len_app]; omega)
    rw [cd_app]
    exact L.fin bg3
theorem ok_spaced (T : Txt K mg) : CalS R0 wd K mg base 2 "_law_spaced" spSpc := by
  refine cal_s T.d_l_spaced T.g_l_spaced sc_l_spaced (fun _ _ _ _ _ _ us hl => match us, hl with | [_, _], _ => rfl) (fun vs H Q E h => ?_) (fun cdv A outer s H vs Q E hr h => ⟨t_l_spaced K E, ?_, pure_spaced vs H Q E h⟩)
  · obtain ⟨a, s, l, W, rfl, _⟩ := h
    rfl
  · exact (pss_cons (ps_set (i := 2) sc_l_spaced.nd rfl (Or.inl rfl) pe_str)
      (pss_cons (ps_set (i := 3) sc_l_spaced.nd rfl (Or.inl rfl) (pe_ix ix_list (pe_lst (pa_cons (pe_lst (pa_cons pe_str (pa_cons pe_str (pa_cons pe_str (pa_cons pe_str (pa_cons pe_str (pa_cons pe_str (pa_cons pe_str (pa_cons pe_str (pa_cons pe_str pa_nil)))))))))) (pa_cons (pe_op op_rep (pe_lst (pa_cons pe_str pa_nil)) pe_int) (pa_cons (pe_op op_rep (pe_lst (pa_cons pe_str pa_nil)) pe_int) pa_nil)))) (pc (ok_draw T) hr (by omega) passE rfl (pa_cons (pv 0) (pa_cons pe_int pa_nil))) (fun _ _ => rfl)))
      (pss_cons (ps_set (i := 4) sc_l_spaced.nd rfl (Or.inl rfl) (pe_ix ix_list (pv 3) (pc (ok_draw T) hr (by omega) passE rfl (pa_cons (pv 0) (pa_cons pe_int pa_nil))) (fun _ _ => rfl)))
      (pss_cons (ps_set (i := 5) sc_l_spaced.nd rfl (Or.inl rfl) (pe_lst pa_nil))
      (pss_cons (ps_for ownE rfl (pi_range1 rfl T.f_range (pa_cons (pe_callB call_len_seq rfl T.f_len (by decide +kernel) (pa_cons (pv 1) pa_nil)) pa_nil)) (pg_name (i := 6) sc_l_spaced.nd rfl (Or.inl rfl)) (pss_cons (ps_set (i := 7) sc_l_spaced.nd rfl (Or.inl rfl) (pe_ix ix_list (pv 3) (pc (ok_draw T) hr (by omega) passE rfl (pa_cons (pv 0) (pa_cons pe_int pa_nil))) (fun _ _ => rfl)))
      (pss_cons (ps_if (PW.pt (pw_and (pt_cmpR op_gt (pv 6) pe_int (nomark _)) (pw_and (pt_cmpR op_eq (pv 7) pe_str (nomark _)) (pw_and (pt_cmpR op_inS (pe_slice sl_str (pe_ix ix_list (pv 1) (pe_op op_sub (pv 6) pe_int) (fun _ _ => rfl)) (po_some (pe_un un_neg pe_int)) po_none) (pv 2) (by rfl)) (pw_and1 (pt_cmpR op_inS (pe_slice sl_str (pe_ix ix_list (pv 1) (pv 6) (fun _ _ => rfl)) po_none (po_some pe_int)) (pv 2) (by rfl))))))) (pss_one (ps_set (i := 7) sc_l_spaced.nd rfl (Or.inl rfl) pe_str)) pss_nil)
      (pss_cons (ps_if (pt_cmpR op_gt (pv 6) pe_int (nomark _)) (pss_one (ps_set (i := 4) sc_l_spaced.nd rfl (Or.inl rfl) (pe_op op_add_str (pv 4) (pv 7)))) pss_nil)
      (pss_cons (ps_expr (pe_bm PySem.F.plainAttrs_list PySem.F.slot_list_append PySem.F.type_list_append mt_append (pv 5) (pa_cons (pe_callB call_len_str rfl T.f_len (by decide +kernel) (pa_cons (pv 4) pa_nil)) pa_nil)))
      (pss_one (ps_set (i := 4) sc_l_spaced.nd rfl (Or.inl rfl) (pe_op op_add_str (pv 4) (pe_ix ix_list (pv 1) (pv 6) (fun _ _ => rfl))))))))))
      (pss_one (ps_ret (pe_lst (pa_cons (pe_op op_add_str (pv 4) (pe_ix ix_list (pv 3) (pc (ok_draw T) hr (by omega) passE rfl (pa_cons (pv 0) (pa_cons pe_int pa_nil))) (fun _ _ => rfl))) (pa_cons (pv 5) pa_nil))))))))))
end
end K18

/-! M7: the names of what is read; how long its repr is. -/
namespace K18
open PySem PySem.Spec L2
open PyProof.Rows hiding St
mutual
def nmC (N : Str → Prop) : Cn → Prop
  | .call x => N x
  | .flag x => N x
  | .neg c => nmC N c
  | .chn _ cs => nmCs N cs
def nmCs (N : Str → Prop) : List Cn → Prop
  | [] => True
  | c :: r => nmC N c ∧ nmCs N r
end
theorem nmCs_app {N : Str → Prop} : ∀ {a b : List Cn}, nmCs N (a ++ b) ↔ nmCs N a ∧ nmCs N b
  | [], b => by simp [nmCs]
  | c :: r, b => by rw [List.cons_append, nmCs, nmCs, nmCs_app (a := r) (b := b), and_assoc]
theorem nmC_fl {N : Str → Prop} (a : Bool) {c : Cn} (h : nmC N c) : nmCs N (fl a c) := by
  cases c with
  | chn b cs =>
    show nmCs N (if b = a then cs else [.chn b cs])
    split
    · rw [nmC] at h
      exact h
    · exact ⟨h, trivial⟩
  | _ => exact ⟨h, trivial⟩
theorem nmC_flm {N : Str → Prop} (a : Bool) : ∀ {l : List Cn}, nmCs N l → nmCs N (l.flatMap (fl a))
  | [], _ => trivial
  | c :: r, h => by
    rw [nmCs] at h
    rw [List.flatMap_cons]
    exact nmCs_app.mpr ⟨nmC_fl a h.1, nmC_flm a h.2⟩
theorem nmC_chd {N : Str → Prop} (a : Bool) {l : List Cn} (h : nmCs N l) : nmC N (chd a l) := by
  unfold chd
  split
  · rw [nmCs] at h
    exact h.1
  · rw [nmC]
    exact nmC_flm a h
def nmO (N : Str → Prop) (l : Option Str) : Prop := ∀ x, l = some x → N x
mutual
def nmS (N : Str → Prop) : Sm → Prop
  | .call x => N x
  | .dcl x _ => N x
  | .set x _ => N x
  | .ite c f s => nmC N c ∧ nmL N f ∧ nmL N s
  | .whl l c b => nmO N l ∧ nmC N c ∧ nmL N b
  | .frl l b => nmO N l ∧ nmL N b
  | .jmp w l => (w = "break" ∨ w = "continue") ∧ nmO N l
  | .ret n => ∀ k, n = some k → 0 ≤ k ∧ k ≤ 99
  | .tri b l => nmL N b ∧ nmL N l
  | .blk b => nmL N b
def nmL (N : Str → Prop) : List Sm → Prop
  | [] => True
  | s :: r => nmS N s ∧ nmL N r
end
theorem nmL_app {N : Str → Prop} : ∀ {a b : List Sm}, nmL N (a ++ b) ↔ nmL N a ∧ nmL N b
  | [], b => by simp [nmL]
  | c :: r, b => by rw [List.cons_append, nmL, nmL, nmL_app (a := r) (b := b), and_assoc]
theorem num99 {x : Str} (hw : Wok (cd x)) (hk : kd (cd x) = "number") : 0 ≤ numV x ∧ numV x ≤ 99 := by
  have h1 : ∀ c ∈ cd DG, 48 ≤ c ∧ c ≤ 57 := by decide +kernel
  have dj := inS_dj
  unfold numV
  generalize cd x = l at hw hk
  cases hw with
  | word c r a =>
    rw [kd, if_pos a] at hk
    exact absurd hk (by decide +kernel)
  | num1 c a =>
    have := h1 c (inS_mem a)
    simp only [dgt]
    omega
  | num2 c d a _ b =>
    have := h1 c (inS_mem a)
    have := h1 d (inS_mem b)
    simp only [dgt]
    omega
  | sym c a =>
    rw [kd, if_neg (by rw [(dj.2.2.1 c (inS_mem a)).2.1]; exact Bool.false_ne_true), if_neg (by rw [(dj.2.2.1 c (inS_mem a)).2.2]; exact Bool.false_ne_true)] at hk
    exact absurd hk (by decide +kernel)
  | amp => exact absurd hk (by decide +kernel)
  | bar => exact absurd hk (by decide +kernel)
section
variable (ws : List Str) (N : Str → Prop)
structure NmH : Prop where
  n : ∀ i, isN ws i = true → N (tk ws i)
  k : ∀ i, i < ws.length → kd (cd (tk ws i)) = "number" → 0 ≤ numV (tk ws i) ∧ numV (tk ws i) ≤ 99
variable {ws N}
theorem leaf_nm (hN : NmH ws N) {i j : Nat} {c : Cn} (h : leaf ws i = .ok c j) : nmC N c := by
  unfold leaf at h
  split at h
  · rename_i hn
    split at h
    · obtain ⟨a, k, h1, h2⟩ := bind_ok h
      cases h2
      rw [nmC]
      exact hN.n i hn
    · cases h
      rw [nmC]
      exact hN.n i hn
  · cases h
theorem chl_nm {sep : Str} {u : Nat → Rs Cn} (hu : ∀ i c j, u i = .ok c j → nmC N c) : ∀ (f i : Nat) (acc l : List Cn) (j : Nat), chl ws u sep f i acc = .ok l j → nmCs N acc → nmCs N l
  | 0, _, _, _, _, h, _ => by cases h
  | f + 1, i, acc, l, j, h, ha => by
    obtain ⟨c, k, h1, h2⟩ := bind_ok h
    have hc : nmCs N (acc ++ [c]) := nmCs_app.mpr ⟨ha, hu i c k h1, trivial⟩
    split at h2
    · exact chl_nm hu f (k + 1) _ l j h2 hc
    · cases h2
      exact hc
theorem cnd_nm {u : Nat → Rs Cn} (hu : ∀ i c j, u i = .ok c j → nmC N c) {i j : Nat} {c : Cn} (h : cnd ws u i = .ok c j) : nmC N c := by
  rw [cnd_eq] at h
  obtain ⟨l, k, h1, h2⟩ := bind_ok h
  cases h2
  refine nmC_chd false (chl_nm (fun i c j h => ?_) _ _ _ _ _ h1 trivial)
  obtain ⟨l, k, h1, h2⟩ := bind_ok h
  cases h2
  exact nmC_chd true (chl_nm hu _ _ _ _ _ h1 trivial)
theorem uny_nm (hN : NmH ws N) : ∀ r i c j, uny ws r i = .ok c j → nmC N c
  | 0, i, c, j, h => by
    unfold uny at h
    split at h
    · cases h
    · exact leaf_nm hN h
  | r + 1, i, c, j, h => by
    unfold uny at h
    split at h
    · obtain ⟨a, k, h1, h2⟩ := bind_ok h
      cases h2
      rw [nmC]
      exact uny_nm hN r _ _ _ h1
    · split at h
      · obtain ⟨a, k, h1, h2⟩ := bind_ok h
        obtain ⟨x, m, h3, h4⟩ := bind_ok h2
        cases h4
        exact cnd_nm (uny_nm hN r) h1
      · exact leaf_nm hN h
theorem dcl_nm (hN : NmH ws N) {i j : Nat} {s : Sm} (h : dcl ws i = .ok s j) : nmS N s := by
  unfold dcl at h
  split at h
  · rename_i hn
    obtain ⟨_, a, h1, h2⟩ := bind_ok h
    obtain ⟨b, k, h3, h4⟩ := bind_ok h2
    obtain ⟨_, l, h5, h6⟩ := bind_ok h4
    cases h6
    rw [nmS]
    exact hN.n _ hn
  · cases h
theorem jmp_nm (hN : NmH ws N) {i j : Nat} {s : Sm} (hw : tk ws i = "break" ∨ tk ws i = "continue") (h : jmp ws i = .ok s j) : nmS N s := by
  unfold jmp at h
  split at h
  · rename_i hn
    obtain ⟨_, a, h1, h2⟩ := bind_ok h
    cases h2
    rw [nmS]
    exact ⟨hw, fun x e => by cases e; exact hN.n _ hn⟩
  · split at h
    · cases h
      rw [nmS]
      exact ⟨hw, fun x e => by cases e⟩
    · cases h
theorem fin_nm (hN : NmH ws N) {i j : Nat} {s : Sm} (h : fin ws i = .ok s j) : nmS N s := by
  unfold fin at h
  split at h
  · rename_i hn
    obtain ⟨_, a, h1, h2⟩ := bind_ok h
    cases h2
    rw [nmS]
    exact fun k e => by cases e; exact hN.k _ hn.1 hn.2
  · split at h
    · cases h
      rw [nmS]
      exact fun k e => by cases e
    · cases h
theorem cts_nm {u : Nat → Rs (List Sm)} (hu : ∀ i l j, u i = .ok l j → nmL N l) {cl : Str} : ∀ (f i : Nat) (acc l : List Sm) (j : Nat), cts ws u cl f i acc = .ok l j → nmL N acc → nmL N l
  | 0, _, _, _, _, h, _ => by cases h
  | f + 1, i, acc, l, j, h, ha => by
    unfold cts at h
    split at h
    · cases h
      exact ha
    · split at h
      · cases h
      · obtain ⟨a, k, h1, h2⟩ := bind_ok h
        exact cts_nm hu f k _ l j h2 (nmL_app.mpr ⟨ha, hu _ _ _ h1⟩)
theorem blc_nm {u : Nat → Rs (List Sm)} (hu : ∀ i l j, u i = .ok l j → nmL N l) {i j : Nat} {l : List Sm} (h : blc ws u i = .ok l j) : nmL N l := by
  unfold blc at h
  obtain ⟨_, a, h1, h2⟩ := bind_ok h
  obtain ⟨l', b, h3, h4⟩ := bind_ok h2
  obtain ⟨_, c, h5, h6⟩ := bind_ok h4
  cases h6
  exact cts_nm hu _ _ _ _ _ h3 trivial
theorem item_nm (hN : NmH ws N) {s : Nat → Nat → Rs (List Sm)} {R : Nat} (hs : ∀ i l j, s R i = .ok l j → nmL N l) : ∀ i l j, item ws s R i = .ok l j → nmL N l := by
  intro i l j h
  cases R with
  | zero => cases h
  | succ R =>
    rw [item] at h
    split at h
    · obtain ⟨d, k, h1, h2⟩ := bind_ok h
      cases h2
      exact ⟨dcl_nm hN h1, trivial⟩
    · exact hs _ _ _ h
theorem bdy_nm (hN : NmH ws N) {s : Nat → Nat → Rs (List Sm)} {R : Nat} (hs : ∀ i l j, s R i = .ok l j → nmL N l) {i j : Nat} {l : List Sm} (h : bdy ws s R i = .ok l j) : nmL N l := by
  unfold bdy at h
  split at h
  · exact blc_nm (item_nm hN hs) h
  · cases R with
    | zero => cases h
    | succ R =>
      simp only at h
      split at h
      · cases h
      · exact hs _ _ _ h
theorem lop_nm (hN : NmH ws N) {s : Nat → Nat → Rs (List Sm)} {R : Nat} (hs : ∀ i l j, s R i = .ok l j → nmL N l) {lb : Option Str} (hl : nmO N lb) {i j : Nat} {c : Sm} (h : lop ws s R lb i = .ok c j) : nmS N c := by
  unfold lop at h
  split at h
  · obtain ⟨_, a, h1, h2⟩ := bind_ok h
    obtain ⟨d, b, h3, h4⟩ := bind_ok h2
    obtain ⟨_, k, h5, h6⟩ := bind_ok h4
    obtain ⟨q, o, h7, h8⟩ := bind_ok h6
    cases h8
    rw [nmS]
    exact ⟨hl, cnd_nm (uny_nm hN 20) h3, bdy_nm hN hs h7⟩
  · obtain ⟨_, a, h1, h2⟩ := bind_ok h
    obtain ⟨_, b, h3, h4⟩ := bind_ok h2
    obtain ⟨_, k, h5, h6⟩ := bind_ok h4
    obtain ⟨_, o, h7, h8⟩ := bind_ok h6
    obtain ⟨q, p, h9, h0⟩ := bind_ok h8
    cases h0
    rw [nmS]
    exact ⟨hl, bdy_nm hN hs h9⟩
theorem nmd_nm (hN : NmH ws N) {s : Nat → Nat → Rs (List Sm)} {R : Nat} (hs : ∀ i l j, s R i = .ok l j → nmL N l) {i j : Nat} {c : Sm} (hn : isN ws i = true) (h : nmd ws s R i = .ok c j) : nmS N c := by
  unfold nmd at h
  split at h
  · obtain ⟨_, a, h1, h2⟩ := bind_ok h
    obtain ⟨_, b, h3, h4⟩ := bind_ok h2
    cases h4
    rw [nmS]
    exact hN.n _ hn
  · split at h
    · obtain ⟨_, a, h1, h2⟩ := bind_ok h
      obtain ⟨_, b, h3, h4⟩ := bind_ok h2
      cases h4
      rw [nmS]
      exact hN.n _ hn
    · split at h
      · split at h
        · exact lop_nm hN hs (fun x e => by cases e; exact hN.n _ hn) h
        · cases h
      · cases h
theorem chc_nm (hN : NmH ws N) {s : Nat → Nat → Rs (List Sm)} {R : Nat} (hs : ∀ i l j, s R i = .ok l j → nmL N l) {i j : Nat} {c : Sm} (h : chc ws s R i = .ok c j) : nmS N c := by
  unfold chc at h
  obtain ⟨_, a, h1, h2⟩ := bind_ok h
  obtain ⟨d, b, h3, h4⟩ := bind_ok h2
  obtain ⟨_, k, h5, h6⟩ := bind_ok h4
  obtain ⟨q, o, h7, h8⟩ := bind_ok h6
  split at h8
  · obtain ⟨g, p, h9, h0⟩ := bind_ok h8
    cases h0
    rw [nmS]
    exact ⟨cnd_nm (uny_nm hN 20) h3, bdy_nm hN hs h7, bdy_nm hN hs h9⟩
  · cases h8
    rw [nmS]
    exact ⟨cnd_nm (uny_nm hN 20) h3, bdy_nm hN hs h7, trivial⟩
theorem atm_nm (hN : NmH ws N) {s : Nat → Nat → Rs (List Sm)} {R : Nat} (hs : ∀ i l j, s R i = .ok l j → nmL N l) {i j : Nat} {c : Sm} (h : atm ws s R i = .ok c j) : nmS N c := by
  unfold atm at h
  obtain ⟨b, a, h1, h2⟩ := bind_ok h
  obtain ⟨_, k, h3, h4⟩ := bind_ok h2
  obtain ⟨l, o, h5, h6⟩ := bind_ok h4
  cases h6
  rw [nmS]
  exact ⟨blc_nm (item_nm hN hs) h1, blc_nm (item_nm hN hs) h5⟩
theorem stm_nm (hN : NmH ws N) : ∀ R i l j, stm ws R i = .ok l j → nmL N l
  | 0, _, _, _, h => by cases h
  | R + 1, i, l, j, h => by
    have IH : ∀ i l j, (fun (_ : Nat) => stm ws R) R i = .ok l j → nmL N l := stm_nm hN R
    have p1 : ∀ {r : Rs Sm}, one r = .ok l j → (∀ s, r = .ok s j → nmS N s) → nmL N l := by
      intro r h k
      obtain ⟨s, h1, rfl⟩ := one_ok h
      exact ⟨k s h1, trivial⟩
    rw [stm] at h
    split at h
    · cases h
      trivial
    · split at h
      · obtain ⟨b, k, h1, h2⟩ := bind_ok h
        cases h2
        exact ⟨by rw [nmS]; exact blc_nm (item_nm (s := fun _ => stm ws R) hN IH) h1, trivial⟩
      · split at h
        · rename_i z
          exact p1 h fun s e => nmd_nm (s := fun _ => stm ws R) hN IH z e
        · split at h
          · exact p1 h fun s e => chc_nm (s := fun _ => stm ws R) hN IH e
          · split at h
            · exact p1 h fun s e => lop_nm (s := fun _ => stm ws R) hN IH (fun x e => by cases e) e
            · split at h
              · rename_i z
                exact p1 h fun s e => jmp_nm hN z e
              · split at h
                · exact p1 h fun s e => fin_nm hN e
                · split at h
                  · exact p1 h fun s e => atm_nm (s := fun _ => stm ws R) hN IH e
                  · cases h
theorem prg_nm (hN : NmH ws N) {l : List Sm} {j : Nat} (h : prg ws = .ok l j) : nmL N l := cts_nm (item_nm hN (stm_nm hN 41)) _ _ _ _ _ h trivial
end
/-! ### the size of data -/
/-- data whose repr is known: no dict, short leaves -/
structure OkD (n : Nat) (d : PyData) : Prop where
  w : d.weight + 1 ≤ n
  l : d.leavesShort 13 = true
  s : d.showable = true
  h : d.hasDict = false
structure OkDs (n : Nat) (ds : List PyData) : Prop where
  w : PyData.weightAll ds ≤ n
  l : PyData.leavesShortAll 13 ds = true
  s : PyData.showableAll ds = true
  h : PyData.hasDictAll ds = false
theorem OkDs.nil : OkDs 0 [] := ⟨by simp [PyData.weightAll], by simp [PyData.leavesShortAll], by simp [PyData.showableAll], by simp [PyData.hasDictAll]⟩
theorem OkD.cons {n m : Nat} {d : PyData} {ds : List PyData} (a : OkD n d) (b : OkDs m ds) : OkDs (n + m) (d :: ds) := by
  refine ⟨?_, ?_, ?_, ?_⟩
  · rw [PyData.weightAll]
    have := a.w
    have := b.w
    omega
  · rw [PyData.leavesShortAll, a.l, b.l]
    rfl
  · rw [PyData.showableAll, a.s, b.s]
    rfl
  · rw [PyData.hasDictAll, a.h, b.h]
    rfl
theorem OkDs.mono {n m : Nat} {d : List PyData} (a : OkDs n d) (h : n ≤ m) : OkDs m d := ⟨Nat.le_trans a.w h, a.l, a.s, a.h⟩
theorem OkDs.tup {n : Nat} {ds : List PyData} (b : OkDs n ds) : OkD (n + 1) (.tuple ds) := by
  refine ⟨?_, ?_, ?_, ?_⟩
  · rw [PyData.weight]
    have := b.w
    omega
  · rw [PyData.leavesShort]
    exact b.l
  · rw [PyData.showable]
    exact b.s
  · rw [PyData.hasDict]
    exact b.h
theorem OkD.mono {n m : Nat} {d : PyData} (a : OkD n d) (h : n ≤ m) : OkD m d := ⟨Nat.le_trans a.w h, a.l, a.s, a.h⟩
theorem OkD.ds {n : Nat} {d : PyData} (a : OkD n d) : OkDs n [d] := a.cons OkDs.nil
theorem weightAll_app : ∀ a b : List PyData, PyData.weightAll (a ++ b) = PyData.weightAll a + PyData.weightAll b
  | [], b => by simp [PyData.weightAll]
  | x :: r, b => by rw [List.cons_append, PyData.weightAll, PyData.weightAll, weightAll_app r b]; omega
theorem OkDs.cons' : ∀ {n m : Nat} {ds : List PyData} {d : PyData}, OkDs n ds → OkD m d → OkDs (n + m) (ds ++ [d])
  | n, m, ds, d, a, b => by
    have s : ∀ l : List PyData, PyData.leavesShortAll 13 (l ++ [d]) = PyData.leavesShortAll 13 l ∧ PyData.showableAll (l ++ [d]) = PyData.showableAll l ∧ PyData.hasDictAll (l ++ [d]) = PyData.hasDictAll l := by
      intro l
      induction l with
      | nil => simp [PyData.leavesShortAll, PyData.showableAll, PyData.hasDictAll, b.l, b.s, b.h]
      | cons x r ih => simp only [List.cons_append, PyData.leavesShortAll, PyData.showableAll, PyData.hasDictAll, ih.1, ih.2.1, ih.2.2]; exact ⟨trivial, trivial, trivial⟩
    refine ⟨?_, (s ds).1.trans a.l, (s ds).2.1.trans a.s, (s ds).2.2.trans a.h⟩
    rw [weightAll_app]
    have := a.w
    have := b.w
    simp only [PyData.weightAll]
    omega
theorem OkD.none : OkD 1 .none := ⟨by simp [PyData.weight], by simp [PyData.leavesShort], by simp [PyData.showable], by simp [PyData.hasDict]⟩
theorem OkD.bool (b : Bool) : OkD 1 (.bool b) := ⟨by simp [PyData.weight], by simp [PyData.leavesShort], by simp [PyData.showable], by simp [PyData.hasDict]⟩
/-- a short text of small signs -/
def ShS (x : Str) : Prop := x.length ≤ 40 ∧ ∀ c ∈ cd x, c < 1000
theorem OkD.str {x : Str} (h : ShS x) : OkD 41 (.str x) := by
  refine ⟨?_, ?_, by simp [PyData.showable], by simp [PyData.hasDict]⟩
  · rw [PyData.weight]
    have : x.length = x.cps.size := rfl
    have := h.1
    omega
  · rw [PyData.leavesShort, List.all_eq_true]
    exact fun c hc => decide_eq_true (Nat.lt_of_lt_of_le (h.2 c hc) (by decide))
theorem OkD.int {k : Int} (h0 : 0 ≤ k) (h1 : k ≤ 100000) : OkD 20 (.int k) := by
  have l2 : k.natAbs.log2 ≤ 17 := by
    have h := Nat.log2_lt (n := k.natAbs) (k := 18)
    by_cases c : k.natAbs = 0
    · rw [c]
      decide
    · have := (h c).mpr (by omega)
      omega
  refine ⟨?_, ?_, ?_, by simp [PyData.hasDict]⟩
  · rw [PyData.weight]
    split <;> omega
  · rw [PyData.leavesShort]
    exact decide_eq_true (PyData.shown_int_le (Nat.lt_of_le_of_lt (show k.natAbs ≤ 100000 by omega) (by decide)))
  · rw [PyData.showable]
    exact decide_eq_true (by omega)
theorem ShS.of_list {l : List Str} (h : ∀ x ∈ l, x.length ≤ 40 ∧ (cd x).all (fun c => decide (c < 1000)) = true) : ∀ x ∈ l, ShS x := fun x hx => ⟨(h x hx).1, fun c hc => of_decide_eq_true (List.all_eq_true.mp (h x hx).2 c hc)⟩
theorem shs_k : ∀ x ∈ (["call", "flag", "not", "and", "or", "let", "set", "if", "while", "for", "break", "continue", "return", "try", "block", "end"] : List Str), ShS x := ShS.of_list (by decide +kernel)
theorem shs_kW (a : Bool) : ShS (kW a) := by cases a <;> exact shs_k _ (by decide +kernel)
mutual
theorem okD_cn : ∀ (c : Cn), nmC ShS c → OkD (150 * nd c) c.data
  | .call x, h => by
    rw [nmC] at h
    rw [Cn.data, nd]
    exact (((OkD.str (shs_k "call" (by decide +kernel))).ds.cons' (OkD.str h)).tup).mono (by decide)
  | .flag x, h => by
    rw [nmC] at h
    rw [Cn.data, nd]
    exact (((OkD.str (shs_k "flag" (by decide +kernel))).ds.cons' (OkD.str h)).tup).mono (by decide)
  | .neg c, h => by
    rw [nmC] at h
    rw [Cn.data, nd]
    exact (((OkD.str (shs_k "not" (by decide +kernel))).ds.cons' (okD_cn c h)).tup).mono (by omega)
  | .chn a cs, h => by
    rw [nmC] at h
    rw [Cn.data, nd]
    exact (((OkD.str (shs_kW a)).ds.cons' (okD_cns cs h).tup).tup).mono (by omega)
theorem okD_cns : ∀ (l : List Cn), nmCs ShS l → OkDs (150 * nds l) (Cn.datas l)
  | [], _ => by
    rw [Cn.datas, nds]
    exact OkDs.nil
  | c :: r, h => by
    rw [nmCs] at h
    rw [Cn.datas, nds]
    exact ((okD_cn c h.1).cons (okD_cns r h.2)).mono (by omega)
end
theorem okD_optS {l : Option Str} (h : nmO ShS l) : OkD 41 (optS l) := by
  cases l with
  | none => exact OkD.none.mono (by decide)
  | some x => exact OkD.str (h x rfl)
mutual
theorem okD_sm : ∀ (s : Sm), nmS ShS s → OkD (300 * plc s) s.data
  | .call x, h => by
    rw [nmS] at h
    rw [Sm.data, plc]
    exact (((OkD.str (shs_k "call" (by decide +kernel))).ds.cons' (OkD.str h)).tup).mono (by decide)
  | .dcl x b, h => by
    rw [nmS] at h
    rw [Sm.data, plc]
    exact ((((OkD.str (shs_k "let" (by decide +kernel))).ds.cons' (OkD.str h)).cons' (OkD.bool b)).tup).mono (by decide)
  | .set x b, h => by
    rw [nmS] at h
    rw [Sm.data, plc]
    exact ((((OkD.str (shs_k "set" (by decide +kernel))).ds.cons' (OkD.str h)).cons' (OkD.bool b)).tup).mono (by decide)
  | .ite c f g, h => by
    rw [nmS] at h
    rw [Sm.data, plc]
    exact (((((OkD.str (shs_k "if" (by decide +kernel))).ds.cons' (okD_cn c h.1)).cons' (okD_l f h.2.1).tup).cons' (okD_l g h.2.2).tup).tup).mono (by omega)
  | .whl l c b, h => by
    rw [nmS] at h
    rw [Sm.data, plc]
    exact (((((OkD.str (shs_k "while" (by decide +kernel))).ds.cons' (okD_optS h.1)).cons' (okD_cn c h.2.1)).cons' (okD_l b h.2.2).tup).tup).mono (by omega)
  | .frl l b, h => by
    rw [nmS] at h
    rw [Sm.data, plc]
    exact ((((OkD.str (shs_k "for" (by decide +kernel))).ds.cons' (okD_optS h.1)).cons' (okD_l b h.2).tup).tup).mono (by omega)
  | .jmp w l, h => by
    rw [nmS] at h
    rw [Sm.data, plc]
    have hw : ShS w := by rcases h.1 with rfl | rfl <;> exact shs_k _ (by decide +kernel)
    exact (((OkD.str hw).ds.cons' (okD_optS h.2)).tup).mono (by decide)
  | .ret n, h => by
    rw [nmS] at h
    rw [Sm.data, plc]
    have hn : OkD 20 (optI n) := by
      cases n with
      | none => exact OkD.none.mono (by decide)
      | some k => exact OkD.int (h k rfl).1 (by have := (h k rfl).2; omega)
    exact (((OkD.str (shs_k "return" (by decide +kernel))).ds.cons' hn).tup).mono (by decide)
  | .tri b l, h => by
    rw [nmS] at h
    rw [Sm.data, plc]
    exact ((((OkD.str (shs_k "try" (by decide +kernel))).ds.cons' (okD_l b h.1).tup).cons' (okD_l l h.2).tup).tup).mono (by omega)
  | .blk b, h => by
    rw [nmS] at h
    rw [Sm.data, plc]
    exact (((OkD.str (shs_k "block" (by decide +kernel))).ds.cons' (okD_l b h).tup).tup).mono (by omega)
theorem okD_l : ∀ (l : List Sm), nmL ShS l → OkDs (300 * plcs l) (Sm.datas l)
  | [], _ => by
    rw [Sm.datas, plcs]
    exact OkDs.nil
  | s :: r, h => by
    rw [nmL] at h
    rw [Sm.datas, plcs]
    exact ((okD_sm s h.1).cons (okD_l r h.2)).mono (by omega)
end
mutual
theorem dp_cn : ∀ c : Cn, c.data.depth ≤ 2 * dcn c + 2
  | .call x => by simp [Cn.data, PyData.depth, PyData.depthAll]
  | .flag x => by simp [Cn.data, PyData.depth, PyData.depthAll]
  | .neg c => by
    have := dp_cn c
    simp only [Cn.data, PyData.depth, PyData.depthAll, dcn]
    omega
  | .chn a cs => by
    have := dp_cns cs
    simp only [Cn.data, PyData.depth, PyData.depthAll, dcn]
    omega
theorem dp_cns : ∀ l : List Cn, PyData.depthAll (Cn.datas l) ≤ 2 * dcns l
  | [] => by simp [Cn.datas, PyData.depthAll]
  | c :: r => by
    have := dp_cn c
    have := dp_cns r
    simp only [Cn.datas, PyData.depthAll, dcns]
    omega
end
theorem dp_optS (l : Option Str) : (optS l).depth = 0 := by cases l <;> simp [optS, PyData.depth]
theorem dp_optI (l : Option Int) : (optI l).depth = 0 := by cases l <;> simp [optI, PyData.depth]
mutual
theorem dp_sm : ∀ s : Sm, s.data.depth ≤ 2 * dpS s + 2 * dcS s + 4
  | .call x => by simp [Sm.data, PyData.depth, PyData.depthAll]
  | .dcl x b => by simp [Sm.data, PyData.depth, PyData.depthAll]
  | .set x b => by simp [Sm.data, PyData.depth, PyData.depthAll]
  | .ite c f g => by
    have := dp_cn c
    have := dp_l f
    have := dp_l g
    simp only [Sm.data, PyData.depth, PyData.depthAll, dpS, dcS]
    omega
  | .whl l c b => by
    have := dp_cn c
    have := dp_l b
    have := dp_optS l
    simp only [Sm.data, PyData.depth, PyData.depthAll, dpS, dcS]
    omega
  | .frl l b => by
    have := dp_l b
    have := dp_optS l
    simp only [Sm.data, PyData.depth, PyData.depthAll, dpS, dcS]
    omega
  | .jmp w l => by
    have := dp_optS l
    simp only [Sm.data, PyData.depth, PyData.depthAll]
    omega
  | .ret n => by
    have := dp_optI n
    simp only [Sm.data, PyData.depth, PyData.depthAll]
    omega
  | .tri b l => by
    have := dp_l b
    have := dp_l l
    simp only [Sm.data, PyData.depth, PyData.depthAll, dpS, dcS]
    omega
  | .blk b => by
    have := dp_l b
    simp only [Sm.data, PyData.depth, PyData.depthAll, dpS, dcS]
    omega
theorem dp_l : ∀ l : List Sm, PyData.depthAll (Sm.datas l) ≤ 2 * dB l + 2 * dcs l + 2
  | [] => by simp [Sm.datas, PyData.depthAll]
  | s :: r => by
    have := dp_sm s
    have := dp_l r
    simp only [Sm.datas, PyData.depthAll, dB, dcs]
    omega
end
/-- data whose repr is taken -/
structure Shw (d : PyData) : Prop where
  s : d.showable = true
  h : d.hasDict = false
  dp : d.depth ≤ 300
  z : d.shown.length ≤ sizeLine
theorem OkD.shw {n : Nat} {d : PyData} (a : OkD n d) (hn : n ≤ 1000000) (hd : d.depth ≤ 300) : Shw d := by
  refine ⟨a.s, a.h, hd, ?_⟩
  have := PyData.shown_le 13 (by decide) d a.l
  have := a.w
  rw [sizeLine_eq]
  omega
theorem wok_shs {x : Str} (h : Wok (cd x)) : ShS x := by
  have h1 : ∀ c ∈ cd LT ++ cd DG ++ cd WC ++ cd SY, c < 1000 := by decide +kernel
  have m1 : ∀ {c}, inS LT c = true → c < 1000 := fun h => h1 _ (by simp [inS_mem h])
  have m2 : ∀ {c}, inS DG c = true → c < 1000 := fun h => h1 _ (by simp [inS_mem h])
  have m3 : ∀ {c}, inS WC c = true → c < 1000 := fun h => h1 _ (by simp [inS_mem h])
  have m4 : ∀ {c}, inS SY c = true → c < 1000 := fun h => h1 _ (by simp [inS_mem h])
  unfold ShS
  rw [str_len]
  generalize cd x = l at h
  cases h with
  | word c r a b d =>
    refine ⟨by rw [List.length_cons]; omega, fun y hy => ?_⟩
    rcases List.mem_cons.mp hy with rfl | hy
    · exact m1 a
    · exact m3 (b _ hy)
  | num1 c a => exact ⟨(show 1 ≤ 40 by decide), fun y hy => by rw [List.mem_singleton.mp hy]; exact m2 a⟩
  | num2 c d a _ b =>
    refine ⟨(show 2 ≤ 40 by decide), fun y hy => ?_⟩
    rcases List.mem_cons.mp hy with rfl | hy
    · exact m2 a
    · rw [List.mem_singleton.mp hy]
      exact m2 b
  | sym c a => exact ⟨(show 1 ≤ 40 by decide), fun y hy => by rw [List.mem_singleton.mp hy]; exact m4 a⟩
  | amp => exact ⟨by decide, by decide⟩
  | bar => exact ⟨by decide, by decide⟩
/-- a program that was read is shown -/
theorem prg_shw {ws : List Str} (hw : ∀ x ∈ ws, Wok (cd x)) {l : List Sm} {j : Nat} (h : prg ws = .ok l j) (hf : fits l) : Shw (bdD l) := by
  have mem : ∀ i, i < ws.length → tk ws i ∈ ws := fun i h => List.mem_of_getElem? (tk_get h)
  have hN : NmH ws ShS := ⟨fun i hi => wok_shs (hw _ (mem i (isN_lt ws hi))), fun i hi hk => num99 (hw _ (mem i hi)) hk⟩
  have n := prg_nm hN h
  obtain ⟨⟨_, f1⟩, f2, f3⟩ := hf
  refine (okD_l l n).tup.shw (by omega) ?_
  have := dp_l l
  simp only [PyData.depth]
  omega
end K18

/-! WE: what is told -/
namespace K18
open PySem PySem.Spec L2
open PyProof.Rows hiding St
/-! a call in a try's body -/
section
variable {X : Cx} {k j : Nat} {f : Addr} {fd : FuncData} {ps : List Str} {sp : Sp} {E : L2.St → XK} {x : Str} {p pos : Pos} {e : Expr} {es : List Expr} {t : TA}
theorem run_at {pins : List (Addr × Obj)} {σ : L2.St} {H : Hp} {s : Shared} {Q : VK} {us : List Value} {vs : List V} (F : FnS X.prog X.w X.K X.mg X.base k f fd ps sp) (hr : RoomS k X.A) (hb : Binds X.K fd ps []) (hx : PassesAt (L2.CX X.prog X.w) X σ (E σ))
    (I : Inv X pins σ H s) (r : Vals vs us) (h : sp vs H Q (E σ)) : wpAny (model X.prog X.w) X.A (call (.ref f) us) (EP X pins σ Q) X.xe s := by
  have hl : us.length = ps.length := r.length.symm.trans (F.len _ _ _ _ h)
  have b := hb s us I.kIn (by simpa using hl)
  simp only [List.append_nil] at b
  refine wpAny_call (codeAny_mono (F.run X.A X.stack s H ⟨us, []⟩ us vs Q (E σ) hr I.env0 b r h) fun r s' hq => ?_)
  match r, hq with
  | .error e, hq => exact hx pins H s e s' I hq
  | .ok (.ret u), hq => exact I.after hq
theorem pcAt (c : CalS X.prog X.w X.K X.mg X.base k x sp) (hr : RoomS j X.A) (hk : k ≤ j) (hx : ∀ σ, PassesAt (L2.CX X.prog X.w) X σ (E σ)) (hg : Gl X x) (ha : PA X (e :: es) t)
    (hdb : (x == ("__debug__" : Str)) = false := by decide) (he : starEach (e :: es) X.env = (false, eval e X.env) :: starEach es X.env := by rfl) (hpl : (backTo pos (starEach es X.env)).any (·.1) = false := by rfl) :
    PE X (.Call (.Name x p) (e :: es) [] pos) (tCallS sp E t) := by
  obtain ⟨f, fd, ps, F, hm, kp, b⟩ := c.ex
  exact ⟨fun pins s σ H Q I h => wpAny_Call_Name_kw (ld_glob I hg hm (PySem.W.callWith_K (h₀ := X.base) I.ok.mod.kin kp
    (thn (ha.run pos pins s σ H _ I h) fun us s1 ⟨vs, H1, I1, r, q⟩ => ⟨I1.kIn, run_at F (hr.mono hk) b (hx σ) I1 r q⟩) he hpl) hdb)⟩
end
/-- repr of data of any depth that is read here -/
def rReprB (K : PySem.W.Frag) : List V → Hp → VK → Prop := fun vs H Q => ∃ (a : Addr) (d : PyData), vs = [.ref a] ∧ Dp K H (.ref a) d ∧ Shw d ∧ Q (.str d.shown) H
theorem call_reprB {X : Cx} {k : Nat} (hr : RoomS k X.A) : CallR X (.builtin "repr") (rReprB X.K) := by
  intro pins s σ H vs us Q I r h
  obtain ⟨a, d, rfl, hd, hs, q⟩ := h
  obtain ⟨u, rfl, rx⟩ := vals1 r
  cases rx
  obtain ⟨as, rd⟩ := Dp.reads I d _ _ hd rfl
  refine repr_of_reads' rd hs.s (PyData.noDict_hsm hs.h) hr.gd (by have := hr.un; have := hs.dp; omega) (fun _ _ e => e) (fun h' u tk k => ?_) hs.z
  exact ⟨.str d.shown, H, I.kept (t' := tk) k, ⟨_, rfl⟩, q⟩
/-! ### places -/
theorem Wok.pos {l : List Nat} (h : Wok l) : 1 ≤ l.length := by
  obtain ⟨c, r, e, _⟩ := h.head
  rw [e, List.length_cons]
  omega
theorem Lay.pls : ∀ {p : Nat} {l : List Nat} {ws : List Str} {ps : List Nat}, Lay p l ws ps → ps.length = ws.length ∧ (∀ (i q : Nat), ps[i]? = some q → p ≤ q ∧ q < p + l.length) ∧ (∀ (i j q r : Nat), i < j → ps[i]? = some q → ps[j]? = some r → q < r)
  | _, _, _, _, .nil _ => ⟨rfl, fun i q h => by simp at h, fun i j q r _ h => by simp at h⟩
  | p, _, _, _, .cons (g := g) (r := rr) (w := w) hg hw hs hl => by
    obtain ⟨h1, h2, h3⟩ := hl.pls
    have wp := hw.pos
    refine ⟨by rw [List.length_cons, List.length_cons, h1], fun i q h => ?_, fun i j q r hij hi hj => ?_⟩
    · rw [List.length_append, List.length_append]
      cases i with
      | zero =>
        simp only [List.getElem?_cons_zero, Option.some.injEq] at h
        omega
      | succ i =>
        simp only [List.getElem?_cons_succ] at h
        have := h2 i q h
        omega
    · cases j with
      | zero => omega
      | succ j =>
        simp only [List.getElem?_cons_succ] at hj
        cases i with
        | zero =>
          simp only [List.getElem?_cons_zero, Option.some.injEq] at hi
          have := h2 j r hj
          omega
        | succ i =>
          simp only [List.getElem?_cons_succ] at hi
          exact h3 i j q r (by omega) hi hj
/-- what is told of words that are read -/
def toldD (ws : List Str) : PyData := match prg ws with
  | .ok l _ => bdD l
  | .no k s => .tuple [if k < ws.length then .int (k : Int) else .str "end", .str s]
def spTold (w : Rw) : Sp := fun vs H Q _ => ∃ (r pl : Addr) (z : Str), vs = [.ref r] ∧ H r = some (.lst [.str z, .ref pl]) ∧ H pl = some (.lst (intL w.ps)) ∧ Txs w z ∧ (∀ l j, prg w.ws = .ok l j → fits l) ∧ ∀ H' v, Fr [] H H' → TD H' v (toldD w.ws) → Q v H'
theorem intL_get (ps : List Nat) (i : Nat) : (intL ps)[i]? = (ps[i]?).map fun (p : Nat) => V.int (p : Int) := by rw [intL, List.getElem?_map]
theorem intL_flat (ps : List Nat) : (intL ps).all flatV = true := by
  rw [List.all_eq_true]
  intro x hx
  obtain ⟨p, _, rfl⟩ := List.mem_map.mp hx
  rfl
/-- where the k-th token stands -/
theorem Txs.pl {w : Rw} {z : Str} (hz : Txs w z) (k : Nat) : (k < w.ws.length ∧ w.ps[k]? = some (w.pl k) ∧ w.pl k < w.n ∧ ∀ (m q : Nat), m < k → w.ps[m]? = some q → q < w.pl k) ∨ (¬ k < w.ws.length ∧ w.pl k = w.n) := by
  obtain ⟨h1, h2, h3⟩ := hz.1.pls
  by_cases c : k < w.ws.length
  · left
    have e : w.ps[k]? = some (w.pl k) := by
      unfold Rw.pl
      rw [List.getD_eq_getElem?_getD, List.getElem?_eq_getElem (by omega)]
      rfl
    have b := h2 k _ e
    have l : (cd z).length = w.n := by rw [← str_len, hz.2.1]
    exact ⟨c, e, by omega, fun m q hm hq => h3 m k q _ hm hq e⟩
  · right
    refine ⟨c, ?_⟩
    unfold Rw.pl
    rw [List.getD_eq_getElem?_getD, List.getElem?_eq_none (by omega)]
    rfl
theorem in_ps {w : Rw} {z : Str} (hz : Txs w z) {k : Nat} (c : k < w.ws.length) : inV (.int (w.pl k : Int)) (intL w.ps) = true := by
  rcases hz.pl k with ⟨_, e, _⟩ | ⟨h, _⟩
  · unfold inV
    rw [List.any_eq_true]
    refine ⟨.int (w.pl k : Int), List.mem_of_getElem? (i := k) (by rw [intL_get, e]; rfl), ?_⟩
    show ((w.pl k : Int) == (w.pl k : Int)) = true
    simp
  · exact absurd c h
theorem not_in_ps {w : Rw} {z : Str} (hz : Txs w z) {k : Nat} (c : ¬ k < w.ws.length) : inV (.int (w.pl k : Int)) (intL w.ps) = false := by
  rcases hz.pl k with ⟨h, _⟩ | ⟨_, e⟩
  · exact absurd h c
  · obtain ⟨h1, h2, h3⟩ := hz.1.pls
    have l : (cd z).length = w.n := by rw [← str_len, hz.2.1]
    unfold inV
    rw [List.any_eq_false]
    intro x hx
    obtain ⟨i, hi⟩ := List.getElem?_of_mem hx
    rw [intL_get] at hi
    obtain ⟨q, hq, rfl⟩ := Option.map_eq_some_iff.mp hi
    have := h2 i q hq
    show ¬ ((q : Int) == (w.pl k : Int)) = true
    rw [e]
    simp only [beq_iff_eq]
    omega
/-- the index of a token's place -/
theorem ix_ps {w : Rw} {z : Str} (hz : Txs w z) {k : Nat} (c : k < w.ws.length) : (intL w.ps)[k]? = some (.int (w.pl k : Int)) ∧ eqV (.int (w.pl k : Int)) (.int (w.pl k : Int)) = true ∧ ∀ (m : Nat) (z' : V), m < k → (intL w.ps)[m]? = some z' → eqV z' (.int (w.pl k : Int)) = false := by
  rcases hz.pl k with ⟨_, e, _, h⟩ | ⟨h, _⟩
  · refine ⟨by rw [intL_get, e]; rfl, ?_, fun m z' hm hz' => ?_⟩
    · show ((w.pl k : Int) == (w.pl k : Int)) = true
      simp
    · rw [intL_get] at hz'
      obtain ⟨q, hq, rfl⟩ := Option.map_eq_some_iff.mp hz'
      have := h m q hm hq
      show ((q : Int) == (w.pl k : Int)) = false
      rw [beq_eq_false_iff_ne]
      omega
  · exact absurd c h
abbrev N_l_told : List Str := ["_law_spaced_here", "_law_text", "e"]
theorem sc_l_told : FnScope N_l_told ["_law_spaced_here"] (defScope s_l_told) := ⟨rfl, rfl, rfl, by decide +kernel, rfl, by decide +kernel, by decide +kernel⟩
def t_l_told (K : PySem.W.Frag) (E : XK) (w : Rw) : TS :=
  (tSeq (tAsg (tOp (rIxL K) (tVar 0) (tC (.int 0))) (gName 1))
  (tSeq (fun D σ H => (fun W => (tRet (tCallS (spRead K w) (WE W) (tCons (tVar 1) tNil)))) (wAs K (.ref (He.ga K "TextError")) 2 (fun a cls d => (tSeq (tIfS (tTest (tOp rEq (tXf a cls d (He.ga K "TextError") "place" (tVar 2)) (tCB rLenT (tCons (tVar 1) tNil)))) (tRet (tTup (tCons (tC (.str "end")) (tCons (tXf a cls d (He.ga K "TextError") "reason" (tVar 2)) tNil)))) tNext)
  (tIfS (tTest (tOp (rIn K false) (tXf a cls d (He.ga K "TextError") "place" (tVar 2)) (tOp (rIxL K) (tVar 0) (tC (.int 1))))) (tRet (tTup (tCons (tBM K "list" (rIndex K) (tOp (rIxL K) (tVar 0) (tC (.int 1))) (tCons (tXf a cls d (He.ga K "TextError") "place" (tVar 2)) tNil)) (tCons (tXf a cls d (He.ga K "TextError") "reason" (tVar 2)) tNil)))) tNext))) (fun cls d _ H => E cls d H) D) D σ H)
  (tRet (tC .non))))
section
variable {wd : World} {K : PySem.W.Frag} {mg : Str → Option Value} {base : Heap} {w : Rw}
theorem pure_told (T : Txt K mg) (vs : List V) (H : Hp) (Q : VK) (E : XK) (h : spTold w vs H Q E) : t_l_told K E w { nx := fun _ H' => Q .non H', rt := Q } (start N_l_told vs) H := by
  obtain ⟨r, pl, z, rfl, hr, hp, hz, hf, q⟩ := h
  refine ⟨_, rfl, r, _, 0, _, rfl, rfl, sqL hr, at0, ?_⟩
  refine ⟨_, rfl, z, rfl, hz, hf, ?_⟩
  unfold toldD at q
  unfold told
  generalize prg w.ws = A at q
  cases A with
  | ok l j => exact fun H' v f tv => q H' v f tv
  | no k s =>
    intro H1 d f1 hd
    have hr1 := f1.oth _ _ hr (by simp)
    have hp1 := f1.oth _ _ hp (by simp)
    refine ⟨true, T.te.te, fun _ a ha => ?_, fun q => nomatch q⟩
    have lp : (teF (.int (w.pl k : Int)) (.str s)).lookup ("place" : Str) = some (V.int (w.pl k : Int)) := by rfl
    have lr : (teF (.int (w.pl k : Int)) (.str s)).lookup ("reason" : Str) = some (V.str s) := by rfl
    refine ⟨_, rfl, rfl, rfl, d, _, _, rfl, hd, lp, _, rfl, z, rfl, mil (by have := hz.2.1; have := hz.2.2; omega), rfl, _, rfl, ?_⟩
    rw [hz.2.1]
    rcases hz.pl k with ⟨c, e, lt, _⟩ | ⟨c, e⟩
    · refine iteFb (decide_eq_false fun z => by have := V.int.inj z; omega) ?_
      refine ⟨_, rfl, rfl, rfl, d, _, _, rfl, hd, lp, _, rfl, r, _, 1, _, rfl, rfl, sqL hr1, at1, pl, _, rfl, .inl (sqL hp1), rfl, intL_flat _, _, rfl, iteTb (in_ps hz c) ?_⟩
      refine ⟨_, rfl, r, _, 1, _, rfl, rfl, sqL hr1, at1, .inl ⟨rfl, _, sqL hp1⟩, _, rfl, rfl, rfl, d, _, _, rfl, hd, lp, ?_⟩
      obtain ⟨i1, i2, i3⟩ := ix_ps hz c
      refine ⟨pl, _, _, k, _, rfl, rfl, sqL hp1, rfl, intL_flat _, i1, i2, i3, ?_⟩
      refine ⟨_, rfl, rfl, rfl, d, _, _, rfl, hd, lr, two_le, fun p hp => ?_⟩
      have fn : Fr [] H1 (upd H1 p (.tup [.int (k : Int), .str s])) := Fr.new hp
      refine q _ _ (f1.trans fn) ?_
      show TD _ _ (.tuple [if k < w.ws.length then .int (k : Int) else .str "end", .str s])
      rw [if_pos c]
      exact TD.mk2 upd_same (.int _) (.str _)
    · refine iteTb (decide_eq_true (by rw [e])) ?_
      refine ⟨_, rfl, rfl, rfl, d, _, _, rfl, hd, lr, two_le, fun p hp => ?_⟩
      have fn : Fr [] H1 (upd H1 p (.tup [.str "end", .str s])) := Fr.new hp
      refine q _ _ (f1.trans fn) ?_
      show TD _ _ (.tuple [if k < w.ws.length then .int (k : Int) else .str "end", .str s])
      rw [if_neg c]
      exact TD.mk2 upd_same (.str _) (.str _)
theorem ok_told (T : Txt K mg) : CalS R0 wd K mg base 315 "_law_told" (spTold w) := by
  refine cal_s T.d_l_told T.g_l_told sc_l_told (fun _ _ _ _ _ _ us hl => match us, hl with | [_], _ => rfl) (fun vs H Q E h => ?_) (fun cdv A outer s H vs Q E hr h => ⟨t_l_told K E w, ?_, pure_told T vs H Q E h⟩)
  · obtain ⟨r, pl, z, rfl, _⟩ := h
    rfl
  · exact (pss_cons (ps_set (i := 1) sc_l_told.nd rfl (Or.inl rfl) (pe_ix ix_list (pv 0) pe_int (fun _ _ => rfl)))
      (pss_cons (ps_try_as (i := 2) (tb := fun W => (tRet (tCallS (spRead K w) (WE W) (tCons (tVar 1) tNil)))) (ts := fun a cls d => (tSeq (tIfS (tTest (tOp rEq (tXf a cls d (He.ga K "TextError") "place" (tVar 2)) (tCB rLenT (tCons (tVar 1) tNil)))) (tRet (tTup (tCons (tC (.str "end")) (tCons (tXf a cls d (He.ga K "TextError") "reason" (tVar 2)) tNil)))) tNext)
  (tIfS (tTest (tOp (rIn K false) (tXf a cls d (He.ga K "TextError") "place" (tVar 2)) (tOp (rIxL K) (tVar 0) (tC (.int 1))))) (tRet (tTup (tCons (tBM K "list" (rIndex K) (tOp (rIxL K) (tVar 0) (tC (.int 1))) (tCons (tXf a cls d (He.ga K "TextError") "place" (tVar 2)) tNil)) (tCons (tXf a cls d (He.ga K "TextError") "reason" (tVar 2)) tNil)))) tNext))) (Wout := fun cls d _ H => E cls d H) rfl rfl sc_l_told.nd rfl rfl ⟨rfl, by decide, Or.inl T.te.gC⟩ takesE (fun W pn xe tk _ => (pss_one (ps_ret (pcAt (ok_read T) hr (by omega) (fun σ => passAt tk σ) rfl (pa_cons (pv 1) pa_nil))))) (fun a oe cls d pn hz hf => (pss_cons (ps_if (pt_cmpR op_eq (pe_xf T.xf T.te.noP hz hf (pv 2)) (pe_callB call_len_str rfl T.f_len (by decide +kernel) (pa_cons (pv 1) pa_nil)) (nomark _)) (pss_one (ps_ret (pe_tup (pa_cons pe_str (pa_cons (pe_xf T.xf T.te.noR hz hf (pv 2)) pa_nil))))) pss_nil)
      (pss_one (ps_if (pt_cmpR op_in_seq (pe_xf T.xf T.te.noP hz hf (pv 2)) (pe_ix ix_list (pv 0) pe_int (fun _ _ => rfl)) (by rfl)) (pss_one (ps_ret (pe_tup (pa_cons (pe_bm PySem.F.plainAttrs_list PySem.F.slot_list_index PySem.F.type_list_index mt_index (pe_ix ix_list (pv 0) pe_int (fun _ _ => rfl)) (pa_cons (pe_xf T.xf T.te.noP hz hf (pv 2)) pa_nil)) (pa_cons (pe_xf T.xf T.te.noR hz hf (pv 2)) pa_nil))))) pss_nil)))))
      (pss_one (ps_ret pe_non))))
end
end K18

/-! M8: the reasons that the mirror tells are short. -/
namespace K18
open PySem PySem.Spec L2
open PyProof.Rows hiding St
def OkR {α : Type} (r : Rs α) : Prop := ∀ k s, r = .no k s → ShS s
theorem OkR.ok {α : Type} (a : α) (j : Nat) : OkR (.ok a j) := fun k s h => by cases h
theorem OkR.no {α : Type} {k : Nat} {s : Str} (h : ShS s) : OkR (.no k s : Rs α) := fun k' s' e => by cases e; exact h
theorem OkR.bind {α β : Type} {A : Rs α} {f : α → Nat → Rs β} (h : OkR A) (g : ∀ a j, OkR (f a j)) : OkR (A.bind f) := by
  intro k s e
  cases A with
  | ok a j => exact g a j k s e
  | no k' s' =>
    cases e
    exact h _ _ rfl
theorem OkR.ite {α : Type} {p : Prop} [Decidable p] {a b : Rs α} (h : OkR a) (g : OkR b) : OkR (if p then a else b) := by
  split
  · exact h
  · exact g
theorem shs_r : ∀ x ∈ (["", "nested too deeply", "expected )", "expected (", "expected =", "expected ;", "expected {", "expected }", "expected finally", "expected a condition", "expected true or false", "expected a name", "expected a label or ;", "expected a number or ;", "let is not allowed here", "expected while or for", "expected (, = or :", "expected a statement"] : List Str), ShS x := ShS.of_list (by decide +kernel)
theorem shs_x : ∀ x ∈ ([")", "(", "=", ";", "{", "}", "finally"] : List Str), ShS ("expected " ++ x) := by
  have h : ∀ x ∈ ([")", "(", "=", ";", "{", "}", "finally"] : List Str), ("expected " ++ x).length ≤ 40 ∧ (cd ("expected " ++ x)).all (fun c => decide (c < 1000)) = true := by decide +kernel
  exact fun x hx => ⟨(h x hx).1, fun c hc => of_decide_eq_true (List.all_eq_true.mp (h x hx).2 c hc)⟩
section
variable {ws : List Str}
theorem okR_xpt {t : Str} {i : Nat} (h : t ∈ ([")", "(", "=", ";", "{", "}", "finally"] : List Str)) : OkR (xpt ws t i) := .ite (.ok _ _) (.no (shs_x t h))
theorem okR_leaf {i : Nat} : OkR (leaf ws i) := .ite (.ite (.bind (okR_xpt (by decide +kernel)) fun _ _ => .ok _ _) (.ok _ _)) (.no (shs_r _ (by decide +kernel)))
theorem okR_chl {α : Type} {u : Nat → Rs α} {sep : Str} (hu : ∀ i, OkR (u i)) : ∀ (f i : Nat) (acc : List α), OkR (chl ws u sep f i acc)
  | 0, _, _ => .no (shs_r _ (by decide +kernel))
  | f + 1, i, acc => .bind (hu i) fun c j => .ite (okR_chl hu f _ _) (.ok _ _)
theorem okR_cnd {u : Nat → Rs Cn} (hu : ∀ i, OkR (u i)) (i : Nat) : OkR (cnd ws u i) := .bind (okR_chl (fun i => okR_chl hu _ _ _) _ _ _) fun _ _ => .ok _ _
theorem okR_uny : ∀ r i, OkR (uny ws r i)
  | 0, i => .ite (.no (shs_r _ (by decide +kernel))) okR_leaf
  | r + 1, i => .ite (.bind (okR_uny r _) fun _ _ => .ok _ _) (.ite (.bind (okR_cnd (okR_uny r) _) fun _ _ => .bind (okR_xpt (by decide +kernel)) fun _ _ => .ok _ _) okR_leaf)
theorem okR_tru {i : Nat} : OkR (tru ws i) := .ite (.ok _ _) (.ite (.ok _ _) (.no (shs_r _ (by decide +kernel))))
theorem okR_dcl {i : Nat} : OkR (dcl ws i) := .ite (.bind (okR_xpt (by decide +kernel)) fun _ _ => .bind okR_tru fun _ _ => .bind (okR_xpt (by decide +kernel)) fun _ _ => .ok _ _) (.no (shs_r _ (by decide +kernel)))
theorem okR_jmp {i : Nat} : OkR (jmp ws i) := .ite (.bind (okR_xpt (by decide +kernel)) fun _ _ => .ok _ _) (.ite (.ok _ _) (.no (shs_r _ (by decide +kernel))))
theorem okR_fin {i : Nat} : OkR (fin ws i) := .ite (.bind (okR_xpt (by decide +kernel)) fun _ _ => .ok _ _) (.ite (.ok _ _) (.no (shs_r _ (by decide +kernel))))
theorem okR_cts {u : Nat → Rs (List Sm)} {cl : Str} (hu : ∀ i, OkR (u i)) : ∀ (f i : Nat) (acc : List Sm), OkR (cts ws u cl f i acc)
  | 0, _, _ => .no (shs_r _ (by decide +kernel))
  | f + 1, i, acc => .ite (.ok _ _) (.ite (.no (shs_r _ (by decide +kernel))) (.bind (hu i) fun _ _ => okR_cts hu f _ _))
theorem okR_blc {u : Nat → Rs (List Sm)} (hu : ∀ i, OkR (u i)) {i : Nat} : OkR (blc ws u i) := .bind (okR_xpt (by decide +kernel)) fun _ _ => .bind (okR_cts hu _ _ _) fun _ _ => .bind (okR_xpt (by decide +kernel)) fun _ _ => .ok _ _
theorem okR_item {s : Nat → Nat → Rs (List Sm)} : ∀ {R : Nat}, (∀ i, OkR (s R i)) → ∀ i, OkR (item ws s R i)
  | 0, _, i => .no (shs_r _ (by decide +kernel))
  | R + 1, hs, i => .ite (.bind okR_dcl fun _ _ => .ok _ _) (hs i)
theorem okR_bdy {s : Nat → Nat → Rs (List Sm)} {R : Nat} (hs : ∀ i, OkR (s R i)) {i : Nat} : OkR (bdy ws s R i) := by
  unfold bdy
  refine .ite (okR_blc (okR_item hs)) ?_
  cases R with
  | zero => exact .no (shs_r _ (by decide +kernel))
  | succ R => exact .ite (.no (shs_r _ (by decide +kernel))) (hs i)
theorem okR_lop {s : Nat → Nat → Rs (List Sm)} {R : Nat} (hs : ∀ i, OkR (s R i)) {l : Option Str} {i : Nat} : OkR (lop ws s R l i) :=
  .ite (.bind (okR_xpt (by decide +kernel)) fun _ _ => .bind (okR_cnd (okR_uny 20) _) fun _ _ => .bind (okR_xpt (by decide +kernel)) fun _ _ => .bind (okR_bdy hs) fun _ _ => .ok _ _)
    (.bind (okR_xpt (by decide +kernel)) fun _ _ => .bind (okR_xpt (by decide +kernel)) fun _ _ => .bind (okR_xpt (by decide +kernel)) fun _ _ => .bind (okR_xpt (by decide +kernel)) fun _ _ => .bind (okR_bdy hs) fun _ _ => .ok _ _)
theorem okR_nmd {s : Nat → Nat → Rs (List Sm)} {R : Nat} (hs : ∀ i, OkR (s R i)) {i : Nat} : OkR (nmd ws s R i) :=
  .ite (.bind (okR_xpt (by decide +kernel)) fun _ _ => .bind (okR_xpt (by decide +kernel)) fun _ _ => .ok _ _)
    (.ite (.bind okR_tru fun _ _ => .bind (okR_xpt (by decide +kernel)) fun _ _ => .ok _ _) (.ite (.ite (okR_lop hs) (.no (shs_r _ (by decide +kernel)))) (.no (shs_r _ (by decide +kernel)))))
theorem okR_chc {s : Nat → Nat → Rs (List Sm)} {R : Nat} (hs : ∀ i, OkR (s R i)) {i : Nat} : OkR (chc ws s R i) :=
  .bind (okR_xpt (by decide +kernel)) fun _ _ => .bind (okR_cnd (okR_uny 20) _) fun _ _ => .bind (okR_xpt (by decide +kernel)) fun _ _ => .bind (okR_bdy hs) fun _ _ => .ite (.bind (okR_bdy hs) fun _ _ => .ok _ _) (.ok _ _)
theorem okR_atm {s : Nat → Nat → Rs (List Sm)} {R : Nat} (hs : ∀ i, OkR (s R i)) {i : Nat} : OkR (atm ws s R i) :=
  .bind (okR_blc (okR_item hs)) fun _ _ => .bind (okR_xpt (by decide +kernel)) fun _ _ => .bind (okR_blc (okR_item hs)) fun _ _ => .ok _ _
theorem okR_one {r : Rs Sm} (h : OkR r) : OkR (one r) := .bind h fun _ _ => .ok _ _
theorem okR_stm : ∀ R i, OkR (stm ws R i)
  | 0, i => .no (shs_r _ (by decide +kernel))
  | R + 1, i => by
    have IH : ∀ i, OkR ((fun (_ : Nat) => stm ws R) R i) := okR_stm R
    rw [stm]
    refine OkR.ite (OkR.ok _ _) ?_
    refine OkR.ite (OkR.bind (okR_blc (okR_item (s := fun _ => stm ws R) IH)) fun _ _ => OkR.ok _ _) ?_
    refine OkR.ite (okR_one (okR_nmd (s := fun _ => stm ws R) IH)) ?_
    refine OkR.ite (okR_one (okR_chc (s := fun _ => stm ws R) IH)) ?_
    refine OkR.ite (okR_one (okR_lop (s := fun _ => stm ws R) IH)) ?_
    refine OkR.ite (okR_one okR_jmp) ?_
    refine OkR.ite (okR_one okR_fin) ?_
    refine OkR.ite (okR_one (okR_atm (s := fun _ => stm ws R) IH)) ?_
    exact OkR.no (shs_r _ (by decide +kernel))
theorem okR_prg : OkR (prg ws) := okR_cts (okR_item (okR_stm 41)) _ _ _
end
end K18

/-! WF: law: pieces -/
namespace K18
open PySem PySem.Spec L2
open PyProof.Rows hiding St

def spLTextA : Sp := fun vs H Q E => ∃ w : Rw, spLText w vs H Q E
def spToldA : Sp := fun vs H Q E => ∃ w : Rw, spTold w vs H Q E
abbrev N_law : List Str := ["_law_script", "_law_tape_here", "_law_names_here", "_law_words", "_law_k", "_law_one", "_law_other", "_law_found", "_law_due", "_law_spaced_here", "_law_told_here", "_law_row"]
theorem sc_law : FnScope N_law ["_law_script"] (defScope s_law) := ⟨rfl, rfl, rfl, by decide +kernel, rfl, by decide +kernel, by decide +kernel⟩
def t_law (K : PySem.W.Frag) (E : XK)  : TS :=
  (tSeq (tAsg (tCal (spTape K) E (tCons (tVar 0) tNil)) (gName 1))
  (tSeq (tAsg (tCal spNames E (tCons (tVar 1) (tCons (tOp rAddI (tC (.int 1)) (tCal spDraw E (tCons (tVar 1) (tCons (tC (.int 4)) tNil)))) tNil))) (gName 2))
  (tSeq (tAsg (tCal (spSp 7) E (tCons (tVar 1) (tCons (tCal (spTr 6) E (tCons (tVar 1) (tCons (tVar 2) (tCons (tLst (tCons (tOp rAddI (tC (.int 1)) (tCal spDraw E (tCons (tVar 1) (tCons (tC (.int 60)) tNil)))) tNil)) (tCons (tC (.int 6)) tNil))))) tNil))) (gName 3))
  (tSeq (tFor (iRng1 (tCons (tOp (rIxL K) (tLst (tCons (tC (.int 0)) (tCons (tC (.int 0)) (tCons (tC (.int 1)) (tCons (tC (.int 2)) tNil))))) (tCal spDraw E (tCons (tVar 1) (tCons (tC (.int 4)) tNil)))) tNil)) (gName 4) (tAsg (tCal spSpl E (tCons (tVar 1) (tCons (tVar 3) (tCons (tOp (rIxL K) (tVar 2) (tC (.int 0))) tNil)))) (gName 3)))
  (tSeq (tAsg (tCal spSpc E (tCons (tVar 1) (tCons (tVar 3) tNil))) (gName 5))
  (tSeq (tAsg (tCal spSpc E (tCons (tVar 1) (tCons (tVar 3) tNil))) (gName 6))
  (tSeq (tAsg (tCal spLTextA E (tCons (tOp (rIxL K) (tVar 5) (tC (.int 0))) tNil)) (gName 7))
  (tSeq (tAsg (tOp (rIxL K) (tVar 7) (tC (.int 1))) (gName 8))
  (tSeq (tIfS (tTest (tOp rNotN (tOp (rIxL K) (tVar 7) (tC (.int 0))) (tC .non))) (tSeq (tAsg (tTup (tCons (tC (.str "end")) (tCons (tOp (rIxT K) (tOp (rIxL K) (tVar 7) (tC (.int 0))) (tC (.int 1))) tNil))) (gName 8))
  (tIfS (tTest (tOp (rIn K false) (tOp (rIxT K) (tOp (rIxL K) (tVar 7) (tC (.int 0))) (tC (.int 0))) (tOp (rIxL K) (tVar 5) (tC (.int 1))))) (tAsg (tTup (tCons (tBM K "list" (rIndex K) (tOp (rIxL K) (tVar 5) (tC (.int 1))) (tCons (tOp (rIxT K) (tOp (rIxL K) (tVar 7) (tC (.int 0))) (tC (.int 0))) tNil)) (tCons (tOp (rIxT K) (tOp (rIxL K) (tVar 7) (tC (.int 0))) (tC (.int 1))) tNil))) (gName 8)) tNext)) tNext)
  (tSeq (tFor (iList K (tLst (tCons (tVar 5) (tCons (tVar 6) tNil)))) (gName 9) (tSeq (tAsg (tCal spTokens E (tCons (tOp (rIxL K) (tVar 9) (tC (.int 0))) tNil)) (gName 10))
  (tSeq (tIfS (tOr (tTest (tOp (rNeD K) (tLc (iTup K (tVar 10)) (gName 11) tYes (tOp (rIxT K) (tVar 11) (tC (.int 1))) [11]) (tVar 3))) (tTest (tOp (rNeD K) (tLc (iTup K (tVar 10)) (gName 11) tYes (tOp (rIxT K) (tVar 11) (tC (.int 2))) [11]) (tOp (rIxL K) (tVar 9) (tC (.int 1)))))) (tRet (tC (.bl false))) tNext)
  (tIfS (tTest (tOp rNe (tCB (rReprB K) (tCons (tCal spToldA E (tCons (tVar 9) tNil)) tNil)) (tCB (rReprB K) (tCons (tVar 8) tNil)))) (tRet (tC (.bl false))) tNext))))
  (tRet (tOp (rEqD K) (tLc (iTup K (tCal spTokens E (tCons (tOp (rIxL K) (tVar 5) (tC (.int 0))) tNil))) (gName 11) tYes (tOp (rIxT K) (tVar 11) (tC (.int 0))) [11]) (tLc (iTup K (tCal spTokens E (tCons (tOp (rIxL K) (tVar 6) (tC (.int 0))) tNil))) (gName 11) tYes (tOp (rIxT K) (tVar 11) (tC (.int 0))) [11])))))))))))))
section
variable {wd : World} {K : PySem.W.Frag} {mg : Str → Option Value} {base : Heap}
theorem okA_ltext (T : Txt K mg) : CalS R0 wd K mg base 257 "_law_text_read" spLTextA := by
  refine cal_s T.d_l_text_read T.g_l_text_read sc_l_text_read (fun _ _ _ _ _ _ us hl => match us, hl with | [_], _ => rfl) (fun vs H Q E h => ?_) (fun cdv A outer s H vs Q E hr h => ?_)
  · obtain ⟨w, z, rfl, _⟩ := h
    rfl
  · obtain ⟨w, h⟩ := h
    refine ⟨t_l_text_read K E w, ?_, pure_ltext vs H Q E h⟩
    exact (pss_cons (ps_set (i := 1) sc_l_text_read.nd rfl (Or.inl rfl) (pc (ok_lscan T) hr (by omega) passE rfl (pa_cons (pv 0) pa_nil)))
      (pss_cons (ps_if (pt_val (pe_callB call_isi rfl T.f_isinstance (by decide +kernel) (pa_cons (pv 1) (pa_cons (pe_bltn rfl T.f_tuple (by decide +kernel) rfl) pa_nil)))) (pss_one (ps_ret (pe_lst (pa_cons (pv 1) (pa_cons (pe_tup pa_nil) pa_nil))))) pss_nil)
      (pss_cons (ps_set (i := 2) sc_l_text_read.nd rfl (Or.inl rfl) (pe_op op_cat (pv 1) (pe_lst (pa_cons (pe_tup (pa_cons pe_str (pa_cons pe_str (pa_cons (pe_callB call_len_str rfl T.f_len (by decide +kernel) (pa_cons (pv 0) pa_nil)) pa_nil)))) pa_nil))))
      (pss_cons (ps_set (i := 3) sc_l_text_read.nd rfl (Or.inl rfl) (pe_lst (pa_cons pe_int (pa_cons pe_non pa_nil))))
      (pss_cons (ps_set (i := 4) sc_l_text_read.nd rfl (Or.inl rfl) (pe_tup pa_nil))
      (pss_cons (ps_for ownE rfl (pi_range1 rfl T.f_range (pa_cons (pe_callB call_len_seq rfl T.f_len (by decide +kernel) (pa_cons (pv 2) pa_nil)) pa_nil)) (pg_name (i := 5) sc_l_text_read.nd rfl (Or.inl rfl)) (pss_cons (ps_if (PW.pt (pw_or (pt_cmpR op_notN (pe_ix ix_list (pv 3) pe_int (fun _ _ => rfl)) pe_non (nomark _)) (pw_or1 (pt_cmpR op_eq (pe_ix ix_tup (pe_ix ix_list (pv 2) (pe_ix ix_list (pv 3) pe_int (fun _ _ => rfl)) (fun _ _ => rfl)) pe_int (fun _ _ => rfl)) pe_str (nomark _))))) (pss_one ps_break) pss_nil)
      (pss_one (ps_set (i := 4) sc_l_text_read.nd rfl (Or.inl rfl) (pe_op op_catA (pv 4) (pc (ok_lstm T 41 0 rfl) hr (by omega) passE rfl (pa_cons (pv 2) (pa_cons (pv 3) (pa_cons pe_int (pa_cons pe_bl pa_nil))))))))))
      (pss_one (ps_ret (pe_lst (pa_cons (pe_ix ix_list (pv 3) pe_int (fun _ _ => rfl)) (pa_cons (pv 4) pa_nil)))))))))))
theorem okA_told (T : Txt K mg) : CalS R0 wd K mg base 315 "_law_told" spToldA := by
  refine cal_s T.d_l_told T.g_l_told sc_l_told (fun _ _ _ _ _ _ us hl => match us, hl with | [_], _ => rfl) (fun vs H Q E h => ?_) (fun cdv A outer s H vs Q E hr h => ?_)
  · obtain ⟨w, r, pl, z, rfl, _⟩ := h
    rfl
  · obtain ⟨w, h⟩ := h
    refine ⟨t_l_told K E w, ?_, pure_told T vs H Q E h⟩
    exact (pss_cons (ps_set (i := 1) sc_l_told.nd rfl (Or.inl rfl) (pe_ix ix_list (pv 0) pe_int (fun _ _ => rfl)))
      (pss_cons (ps_try_as (i := 2) (tb := fun W => (tRet (tCallS (spRead K w) (WE W) (tCons (tVar 1) tNil)))) (ts := fun a cls d => (tSeq (tIfS (tTest (tOp rEq (tXf a cls d (He.ga K "TextError") "place" (tVar 2)) (tCB rLenT (tCons (tVar 1) tNil)))) (tRet (tTup (tCons (tC (.str "end")) (tCons (tXf a cls d (He.ga K "TextError") "reason" (tVar 2)) tNil)))) tNext)
  (tIfS (tTest (tOp (rIn K false) (tXf a cls d (He.ga K "TextError") "place" (tVar 2)) (tOp (rIxL K) (tVar 0) (tC (.int 1))))) (tRet (tTup (tCons (tBM K "list" (rIndex K) (tOp (rIxL K) (tVar 0) (tC (.int 1))) (tCons (tXf a cls d (He.ga K "TextError") "place" (tVar 2)) tNil)) (tCons (tXf a cls d (He.ga K "TextError") "reason" (tVar 2)) tNil)))) tNext))) (Wout := fun cls d _ H => E cls d H) rfl rfl sc_l_told.nd rfl rfl ⟨rfl, by decide, Or.inl T.te.gC⟩ takesE (fun W pn xe tk _ => (pss_one (ps_ret (pcAt (ok_read T) hr (by omega) (fun σ => passAt tk σ) rfl (pa_cons (pv 1) pa_nil))))) (fun a oe cls d pn hz hf => (pss_cons (ps_if (pt_cmpR op_eq (pe_xf T.xf T.te.noP hz hf (pv 2)) (pe_callB call_len_str rfl T.f_len (by decide +kernel) (pa_cons (pv 1) pa_nil)) (nomark _)) (pss_one (ps_ret (pe_tup (pa_cons pe_str (pa_cons (pe_xf T.xf T.te.noR hz hf (pv 2)) pa_nil))))) pss_nil)
      (pss_one (ps_if (pt_cmpR op_in_seq (pe_xf T.xf T.te.noP hz hf (pv 2)) (pe_ix ix_list (pv 0) pe_int (fun _ _ => rfl)) (by rfl)) (pss_one (ps_ret (pe_tup (pa_cons (pe_bm PySem.F.plainAttrs_list PySem.F.slot_list_index PySem.F.type_list_index mt_index (pe_ix ix_list (pv 0) pe_int (fun _ _ => rfl)) (pa_cons (pe_xf T.xf T.te.noP hz hf (pv 2)) pa_nil)) (pa_cons (pe_xf T.xf T.te.noR hz hf (pv 2)) pa_nil))))) pss_nil)))))
      (pss_one (ps_ret pe_non))))
end
/-! ### flat lists as data -/
theorem dp_strs {K : PySem.W.Frag} {H : Hp} : ∀ ws : List Str, DpAll K H (ws.map V.str) (ws.map PyData.str)
  | [] => .nil
  | x :: r => .cons (.str x) (dp_strs r)
theorem dp_ints {K : PySem.W.Frag} {H : Hp} : ∀ ps : List Nat, DpAll K H (intL ps) (ps.map fun (p : Nat) => PyData.int (p : Int))
  | [] => .nil
  | x :: r => .cons (.int _) (dp_ints r)
theorem shp {ds : List PyData} (h1 : PyData.canLayAll0 ds = true) (h2 : PyData.depthAll ds = 0) : PySem.SeqAt.shaped (.list ds) = true ∧ PyData.eqv (.list ds) (.list ds) = true := by
  have c : PyData.canLay0 (.list ds) = true := h1
  refine ⟨?_, PySem.SeqAt.eqv_refl _ c⟩
  unfold PySem.SeqAt.shaped
  rw [c]
  simp only [PyData.depth, h2]
  decide
theorem shp_strs {ws : List Str} (h : ∀ x ∈ ws, ShS x) : PySem.SeqAt.shaped (.list (ws.map PyData.str)) = true ∧ PyData.eqv (.list (ws.map PyData.str)) (.list (ws.map PyData.str)) = true := by
  refine shp ?_ ?_
  · induction ws with
    | nil => rfl
    | cons x r ih =>
      rw [List.map_cons, PyData.canLayAll0, ih fun y hy => h y (List.mem_cons_of_mem _ hy), Bool.and_true, PyData.canLay0]
      unfold PyData.strOk
      rw [← Array.all_toList, List.all_eq_true]
      exact fun c hc => decide_eq_true (Nat.lt_of_lt_of_le ((h x (List.mem_cons_self ..)).2 c hc) (by decide))
  · clear h
    induction ws with
    | nil => rfl
    | cons x r ih => rw [List.map_cons, PyData.depthAll, ih, PyData.depth]; rfl
theorem shp_ints (ps : List Nat) : PySem.SeqAt.shaped (.list (ps.map fun (p : Nat) => PyData.int (p : Int))) = true ∧ PyData.eqv (.list (ps.map fun (p : Nat) => PyData.int (p : Int))) (.list (ps.map fun (p : Nat) => PyData.int (p : Int))) = true := by
  refine shp ?_ ?_
  · induction ps with
    | nil => rfl
    | cons x r ih => rw [List.map_cons, PyData.canLayAll0, ih, PyData.canLay0]; rfl
  · induction ps with
    | nil => rfl
    | cons x r ih => rw [List.map_cons, PyData.depthAll, ih, PyData.depth]; rfl
theorem zw1 {α β γ : Type} (f : α → γ) : ∀ (ws : List α) (ps : List β), ps.length = ws.length → List.zipWith (fun w _ => f w) ws ps = ws.map f
  | [], _, _ => by simp
  | x :: r, [], h => by simp at h
  | x :: r, p :: q, h => by rw [List.zipWith_cons_cons, zw1 f r q (by simpa using h), List.map_cons]
theorem zw2 {α β γ : Type} (f : β → γ) : ∀ (ws : List α) (ps : List β), ps.length = ws.length → List.zipWith (fun _ p => f p) ws ps = ps.map f
  | [], [], _ => by simp
  | [], p :: q, h => by simp at h
  | x :: r, [], h => by simp at h
  | x :: r, p :: q, h => by rw [List.zipWith_cons_cons, zw2 f r q (by simpa using h), List.map_cons]
/-- a column of the tokens -/
theorem lc_tok {K : PySem.W.Frag} {σ : L2.St} {H : Hp} {Q : VK} {te : TE} {ws : List Str} {ps : List Nat} {i : Int} (f : Str → Nat → V) (hf : ∀ w p, atI (tokV w p) i = some (f w p)) (hlen : ws.length ≤ 1000000)
    (he : ∀ R : VK, (∀ H1 t us, Fr [] H H1 → H1 t = some (.tup us) → Us H1 us ws ps → R (.ref t) H1) → te σ H R)
    (hσ : ∀ x, ((wipe σ [11]).set 11 (some x))[11]? = some (some x)) (hw : ∀ x, wipe ((wipe σ [11]).set 11 (some x)) [11] = wipe σ [11])
    (q : ∀ H' D, Fr [] H H' → H' D = some (.lst (List.zipWith f ws ps)) → Q (.ref D) H') : tLc (iTup K te) (gName 11) tYes (tOp (rIxT K) (tVar 11) (tC (.int i))) [11] σ H Q := by
  refine he _ fun H1 t us f1 ht hu => ⟨t, rfl, ⟨us, sqT ht⟩, fun D hD => lc_tup (xs := us) (fun i H' => Fr [] H1 H' ∧ H' D = some (.lst ((List.zipWith f ws ps).take i))) ⟨Fr.new hD, upd_same⟩ (fun i H' _ p => sqT (p.1.tup _ _ ht)) ?_ ?_⟩
  · rintro k x H' hi ⟨fr, hl⟩
    have lk : k < ws.length := by
      have := (List.getElem?_eq_some_iff.mp hi).1
      have := hu.len.1
      omega
    obtain ⟨a, p, e1, e2, e3⟩ := hu.get (List.getElem?_eq_getElem lk)
    rw [hi] at e1
    cases e1
    refine ⟨hw _, yesI ⟨_, hσ _, a, _, i, _, rfl, rfl, sqT (fr.tup _ _ e3), hf _ _, _, hl, ?_, ?_⟩⟩
    · refine Nat.lt_of_le_of_lt (show _ ≤ 1000000 from ?_) (by decide)
      rw [List.length_take, List.length_zipWith]
      omega
    · refine ⟨fr.out hD, ?_⟩
      rw [upd_same, List.take_add_one, List.getElem?_zipWith, List.getElem?_eq_getElem lk, e2]
      rfl
  · rintro H' ⟨fr, hl⟩
    have e : (List.zipWith f ws ps).take us.length = List.zipWith f ws ps := by
      refine List.take_of_length_le ?_
      rw [List.length_zipWith, hu.len.1]
      omega
    rw [e] at hl
    exact q H' D (f1.trans fr) hl
theorem tps_ne2 {a s l : Addr} {H : Hp} {xs : List V} (t : TpS H a s) (h : H l = some (.lst xs)) (hx : ∀ b, xs.head? ≠ some (.ref b)) : l ≠ a := by
  obtain ⟨⟨ns, p, big, tot, h1, h2, h3⟩, ne⟩ := t
  intro z
  rw [z, h1] at h
  cases h
  exact hx s rfl
theorem intL_head (ps : List Nat) (b : Addr) : (intL ps).head? ≠ some (.ref b) := by
  cases ps with
  | nil => intro h; cases h
  | cons x r => intro h; cases h
theorem kd_shs (l : List Nat) : ShS (kd l) := by
  have h : ∀ x ∈ (["word", "number", "symbol"] : List Str), ShS x := ShS.of_list (by decide +kernel)
  cases l with
  | nil => exact h _ (by decide +kernel)
  | cons c r =>
    show ShS (if inS LT c = true then "word" else if inS DG c = true then "number" else "symbol")
    split
    · exact h _ (by decide +kernel)
    · split
      · exact h _ (by decide +kernel)
      · exact h _ (by decide +kernel)
/-- what is told may be shown -/
theorem told_shw {ws : List Str} (aw : AllW ws) (hz : ws.length ≤ 100000) (hf : ∀ l j, prg ws = .ok l j → fits l) : Shw (toldD ws) ∧ ∃ ds, toldD ws = .tuple ds := by
  have o := okR_prg (ws := ws)
  have p := fun l j (h : prg ws = .ok l j) => prg_shw aw h (hf l j h)
  unfold toldD
  generalize prg ws = A at o p
  cases A with
  | ok l j => exact ⟨p l j rfl, _, rfl⟩
  | no k s =>
    refine ⟨?_, _, rfl⟩
    have hs := OkD.str (o k s rfl)
    have h1 : OkD 41 (if k < ws.length then PyData.int (k : Int) else .str "end") := by
      split
      · exact (OkD.int (by omega) (by omega)).mono (by decide)
      · exact OkD.str (shs_k "end" (by decide +kernel))
    refine ((h1.ds.cons' hs).tup).shw (by decide) ?_
    have d1 : (if k < ws.length then PyData.int (k : Int) else .str "end").depth = 0 := by
      split <;> simp [PyData.depth]
    simp only [List.singleton_append, PyData.depth, PyData.depthAll, d1]
    decide
end K18

/-! WG: law: the turns -/
namespace K18
open PySem PySem.Spec L2
open PyProof.Rows hiding St
def tlF (K : PySem.W.Frag) (E : XK) : TS := (tRet (tOp (rEqD K) (tLc (iTup K (tCal spTokens E (tCons (tOp (rIxL K) (tVar 5) (tC (.int 0))) tNil))) (gName 11) tYes (tOp (rIxT K) (tVar 11) (tC (.int 0))) [11]) (tLc (iTup K (tCal spTokens E (tCons (tOp (rIxL K) (tVar 6) (tC (.int 0))) tNil))) (gName 11) tYes (tOp (rIxT K) (tVar 11) (tC (.int 0))) [11])))
def tlB (K : PySem.W.Frag) (E : XK) : TS := (tSeq (tAsg (tCal spTokens E (tCons (tOp (rIxL K) (tVar 9) (tC (.int 0))) tNil)) (gName 10))
  (tSeq (tIfS (tOr (tTest (tOp (rNeD K) (tLc (iTup K (tVar 10)) (gName 11) tYes (tOp (rIxT K) (tVar 11) (tC (.int 1))) [11]) (tVar 3))) (tTest (tOp (rNeD K) (tLc (iTup K (tVar 10)) (gName 11) tYes (tOp (rIxT K) (tVar 11) (tC (.int 2))) [11]) (tOp (rIxL K) (tVar 9) (tC (.int 1)))))) (tRet (tC (.bl false))) tNext)
  (tIfS (tTest (tOp rNe (tCB (rReprB K) (tCons (tCal spToldA E (tCons (tVar 9) tNil)) tNil)) (tCB (rReprB K) (tCons (tVar 8) tNil)))) (tRet (tC (.bl false))) tNext)))
def tlE (K : PySem.W.Frag) (E : XK) : TS := (tSeq (tFor (iList K (tLst (tCons (tVar 5) (tCons (tVar 6) tNil)))) (gName 9) (tlB K E)) (tlF K E))
def tlD (K : PySem.W.Frag) (E : XK) : TS := (tSeq (tIfS (tTest (tOp rNotN (tOp (rIxL K) (tVar 7) (tC (.int 0))) (tC .non))) (tSeq (tAsg (tTup (tCons (tC (.str "end")) (tCons (tOp (rIxT K) (tOp (rIxL K) (tVar 7) (tC (.int 0))) (tC (.int 1))) tNil))) (gName 8))
  (tIfS (tTest (tOp (rIn K false) (tOp (rIxT K) (tOp (rIxL K) (tVar 7) (tC (.int 0))) (tC (.int 0))) (tOp (rIxL K) (tVar 5) (tC (.int 1))))) (tAsg (tTup (tCons (tBM K "list" (rIndex K) (tOp (rIxL K) (tVar 5) (tC (.int 1))) (tCons (tOp (rIxT K) (tOp (rIxL K) (tVar 7) (tC (.int 0))) (tC (.int 0))) tNil)) (tCons (tOp (rIxT K) (tOp (rIxL K) (tVar 7) (tC (.int 0))) (tC (.int 1))) tNil))) (gName 8)) tNext)) tNext)
  (tlE K E))
/-- a text of the words W: its row, its places -/
structure Tx1 (W : List Str) (H : Hp) (r : Addr) : Prop where
  ex : ∃ (pl : Addr) (z : Str) (w : Rw), H r = some (.lst [.str z, .ref pl]) ∧ H pl = some (.lst (intL w.ps)) ∧ w.ws = W ∧ Txs w z
theorem Tx1.fr {W : List Str} {H H' : Hp} {r : Addr} (h : Tx1 W H r) (f : Fr [] H H') : Tx1 W H' r := by
  obtain ⟨pl, z, w, h1, h2, h3, h4⟩ := h
  exact ⟨pl, z, w, f.oth _ _ h1 (by simp), f.oth _ _ h2 (by simp), h3, h4⟩
section
variable {wd : World} {K : PySem.W.Frag} {mg : Str → Option Value} {base : Heap}
theorem tok_he {W : List Str} {H : Hp} {r : Addr} {σ : L2.St} {E : XK} {i : Nat} {pl : Addr} {z : Str} {w : Rw} (ho : σ[i]? = some (some (.ref r))) (h1 : H r = some (.lst [.str z, .ref pl])) (h3 : w.ws = W) (h4 : Txs w z) :
    ∀ R : VK, (∀ H1 t us, Fr [] H H1 → H1 t = some (.tup us) → Us H1 us W w.ps → R (.ref t) H1) → tCal spTokens E (tCons (tOp (rIxL K) (tVar i) (tC (.int 0))) tNil) σ H R := by
  intro R k
  subst h3
  exact ⟨_, ho, r, _, 0, _, rfl, rfl, sqL h1, at0, z, w.ws, w.ps, rfl, h4.1, by have := h4.2.1; have := h4.2.2; omega, fun H' t us f ht hu => k H' t us f ht hu⟩
/-- one turn: a text's tokens, what is told of it -/
theorem law_b {W : List Str} {H : Hp} {x : V} {r lw : Addr} {dv : V} {s0 s1 s2 s4 s5 s6 s7 s10 : Option V} {D : Ends} {E : XK} (aw : AllW W) (hz : W.length ≤ 100000) (hf : ∀ l j, prg W = .ok l j → fits l) (hx : x = .ref r) (h : Tx1 W H r) (hlw : H lw = some (.lst (W.map V.str))) (hd : TD H dv (toldD W))
    (q : ∀ H' t, Fr [] H H' → D.nx [s0, s1, s2, some (.ref lw), s4, s5, s6, s7, some dv, some x, some t, none] H') : tlB K E D [s0, s1, s2, some (.ref lw), s4, s5, s6, s7, some dv, some x, s10, none] H := by
  subst hx
  obtain ⟨pl, z, w, h1, h2, h3, h4⟩ := h
  have hw : ∀ x ∈ W, ShS x := fun x hx => wok_shs (aw x hx)
  obtain ⟨sh, ds, eds⟩ := told_shw aw hz hf
  have pls := h4.1.pls.1
  rw [h3] at pls
  refine tok_he (i := 9) rfl h1 h3 h4 _ fun H1 t us f1 ht hu => ?_
  have h11 := f1.oth _ _ h1 (by simp)
  have h21 := f1.oth _ _ h2 (by simp)
  have hlw1 := f1.oth _ _ hlw (by simp)
  -- the texts of the tokens
  dsimp only [gName, tSeq, tIfS, tOr, tTest, tOp, List.set]
  refine lc_tok (σ := [s0, s1, s2, some (.ref lw), s4, s5, s6, s7, some dv, some (.ref r), some (.ref t), none]) (ws := W) (ps := w.ps) (fun w _ => .str w) (fun w p => at1) (by omega) (fun R k => ⟨_, rfl, k H1 t us Fr.refl ht hu⟩) (fun _ => rfl) (fun _ => rfl) fun H2 D2 f2 hD2 => ?_
  rw [zw1 V.str W w.ps pls] at hD2
  obtain ⟨c1, c2⟩ := shp_strs hw
  have hlw2 := f2.oth _ _ hlw1 (by simp)
  refine ⟨_, rfl, _, _, .lst (sqL hD2) (dp_strs W), .lst (sqL hlw2) (dp_strs W), c1, c1, _, rfl, iteFb (by rw [c2]; rfl) ?_⟩
  -- their places
  refine lc_tok (σ := [s0, s1, s2, some (.ref lw), s4, s5, s6, s7, some dv, some (.ref r), some (.ref t), none]) (ws := W) (ps := w.ps) (fun _ p => .int (p : Int)) (fun w p => at2) (by omega) (fun R k => ⟨_, rfl, k H2 t us Fr.refl (f2.tup _ _ ht) (hu.fr f2)⟩) (fun _ => rfl) (fun _ => rfl) fun H3 D3 f3 hD3 => ?_
  rw [zw2 (fun (p : Nat) => V.int (p : Int)) W w.ps pls] at hD3
  have hD3' : H3 D3 = some (.lst (intL w.ps)) := hD3
  obtain ⟨c3, c4⟩ := shp_ints w.ps
  have F3 := (f1.trans f2).trans f3
  refine ⟨_, rfl, r, _, 1, _, rfl, rfl, sqL (F3.oth _ _ h1 (by simp)), at1, _, _, .lst (sqL hD3') (dp_ints w.ps), .lst (sqL (F3.oth _ _ h2 (by simp))) (dp_ints w.ps), c3, c3, _, rfl, iteFb (by rw [c4]; rfl) ?_⟩
  -- what is told
  refine ⟨_, rfl, w, r, pl, z, rfl, F3.oth _ _ h1 (by simp), F3.oth _ _ h2 (by simp), h4, by rw [h3]; exact hf, fun H4 v f4 tv => ?_⟩
  rw [h3] at tv
  have tv' := tv
  rw [eds] at tv'
  obtain ⟨b, xs, rfl, _, _⟩ := tv'.tup_inv
  have hd4 := hd.fr (F3.trans f4)
  have hd5 := hd4
  rw [eds] at hd5
  obtain ⟨b2, xs2, rfl, _, _⟩ := hd5.tup_inv
  refine ⟨b, toldD W, rfl, tv.dp, sh, _, rfl, b2, toldD W, rfl, hd4.dp, sh, rfl, _, rfl, iteFb (str_neF rfl) ?_⟩
  exact q H4 _ (F3.trans f4)
/-- from the texts on -/
theorem law_e {W : List Str} {H : Hp} {r1 r2 lw : Addr} {dv : V} {s0 s1 s2 s4 s7 s9 s10 : Option V} {D : Ends} {E : XK} (aw : AllW W) (hz : W.length ≤ 100000) (hf : ∀ l j, prg W = .ok l j → fits l) (h1 : Tx1 W H r1) (h2 : Tx1 W H r2) (hlw : H lw = some (.lst (W.map V.str))) (hd : TD H dv (toldD W)) (q : ∀ H', D.rt (.bl true) H') :
    tlE K E D [s0, s1, s2, some (.ref lw), s4, some (.ref r1), some (.ref r2), s7, some dv, s9, s10, none] H := by
  refine ⟨_, rfl, _, rfl, two_le, fun lp hlp => ?_⟩
  have f0 : Fr [] H (upd H lp (.lst [.ref r1, .ref r2])) := Fr.new hlp
  have k0 : (upd H lp (.lst [.ref r1, .ref r2])) lp = some (.lst [.ref r1, .ref r2]) := upd_same
  generalize upd H lp (.lst [.ref r1, .ref r2]) = H0 at f0 k0
  refine ⟨lp, rfl, ⟨_, sqL k0⟩, for_list (xs := [.ref r1, .ref r2]) (fun i σ H' => ∃ p9 p10, σ = [s0, s1, s2, some (.ref lw), s4, some (.ref r1), some (.ref r2), s7, some dv, p9, p10, none] ∧ Fr [] H0 H') ⟨s9, s10, rfl, Fr.refl⟩ (fun i σ H' _ p => ?_) ?_ ?_⟩
  · obtain ⟨_, _, _, f⟩ := p
    exact sqL (f.oth _ _ k0 (by simp))
  · rintro i x σ H' hi ⟨p9, p10, rfl, f⟩
    have F := f0.trans f
    have hx : ∃ r, x = .ref r ∧ Tx1 W H r := by
      match i, hi with
      | 0, hi => cases hi; exact ⟨r1, rfl, h1⟩
      | 1, hi => cases hi; exact ⟨r2, rfl, h2⟩
    obtain ⟨r, ex, hr⟩ := hx
    exact law_b aw hz hf ex (hr.fr F) (F.oth _ _ hlw (by simp)) (hd.fr F) fun H2 t f2 => ⟨_, _, rfl, f.trans f2⟩
  · rintro σ H' ⟨p9, p10, rfl, f⟩
    have F := f0.trans f
    have hk : ∀ x ∈ W.map (fun w => kd (cd w)), ShS x := fun x hx => by
      obtain ⟨w, _, rfl⟩ := List.mem_map.mp hx
      exact kd_shs _
    obtain ⟨c1, c2⟩ := shp_strs hk
    obtain ⟨pl, z, w, a1, a2, a3, a4⟩ := h1.fr F
    have pls1 := a4.1.pls.1
    rw [a3] at pls1
    dsimp only [tlF, tRet, tOp]
    refine lc_tok (σ := [s0, s1, s2, some (.ref lw), s4, some (.ref r1), some (.ref r2), s7, some dv, p9, p10, none]) (ws := W) (ps := w.ps) (fun w _ => .str (kd (cd w))) (fun w p => at0) (by omega) (tok_he (i := 5) rfl a1 a3 a4) (fun _ => rfl) (fun _ => rfl) fun H1 D1 f1 hD1 => ?_
    rw [zw1 (fun w => V.str (kd (cd w))) W w.ps pls1] at hD1
    obtain ⟨pl', z', w', b1, b2, b3, b4⟩ := h2.fr (F.trans f1)
    have pls2 := b4.1.pls.1
    rw [b3] at pls2
    refine lc_tok (σ := [s0, s1, s2, some (.ref lw), s4, some (.ref r1), some (.ref r2), s7, some dv, p9, p10, none]) (ws := W) (ps := w'.ps) (fun w _ => .str (kd (cd w))) (fun w p => at0) (by omega) (tok_he (i := 6) rfl b1 b3 b4) (fun _ => rfl) (fun _ => rfl) fun H2 D2 f2 hD2 => ?_
    rw [zw1 (fun w => V.str (kd (cd w))) W w'.ps pls2] at hD2
    have hD1' := f2.oth _ _ hD1 (by simp)
    have em : (W.map fun w => V.str (kd (cd w))) = (W.map fun w => kd (cd w)).map V.str := by rw [List.map_map]; rfl
    rw [em] at hD1' hD2
    refine ⟨_, _, .lst (sqL hD1') (dp_strs _), .lst (sqL hD2) (dp_strs _), c1, c1, ?_⟩
    rw [c2]
    exact q _
end
end K18

/-! WH: the law -/
namespace K18
open PySem PySem.Spec L2
open PyProof.Rows hiding St

def tl5 (K : PySem.W.Frag) (E : XK) : TS := (tSeq (tAsg (tCal spSpc E (tCons (tVar 1) (tCons (tVar 3) tNil))) (gName 5))
  (tSeq (tAsg (tCal spSpc E (tCons (tVar 1) (tCons (tVar 3) tNil))) (gName 6))
  (tSeq (tAsg (tCal spLTextA E (tCons (tOp (rIxL K) (tVar 5) (tC (.int 0))) tNil)) (gName 7))
  (tSeq (tAsg (tOp (rIxL K) (tVar 7) (tC (.int 1))) (gName 8))
  (tlD K E)))))
section
variable {wd : World} {K : PySem.W.Frag} {mg : Str → Option Value} {base : Heap}
/-- what is due -/
theorem law_d {W : List Str} {H : Hp} {r1 r2 lw fl : Addr} {ev rv : V} {s0 s1 s2 s4 s9 s10 : Option V} {D : Ends} {E : XK} {pl : Addr} {z : Str} {w : Rw} (aw : AllW W) (hz : W.length ≤ 100000) (hf : ∀ l j, prg W = .ok l j → fits l)
    (a1 : H r1 = some (.lst [.str z, .ref pl])) (a2 : H pl = some (.lst (intL w.ps))) (a3 : w.ws = W) (a4 : Txs w z) (h2 : Tx1 W H r2) (hlw : H lw = some (.lst (W.map V.str))) (hfl : H fl = some (.lst [ev, rv])) (ht : toldL w H ev rv) (q : ∀ H', D.rt (.bl true) H') :
    tlD K E D [s0, s1, s2, some (.ref lw), s4, some (.ref r1), some (.ref r2), some (.ref fl), some rv, s9, s10, none] H := by
  have fin : ∀ H' dv, Fr [] H H' → TD H' dv (toldD W) → tlE K E D [s0, s1, s2, some (.ref lw), s4, some (.ref r1), some (.ref r2), some (.ref fl), some dv, s9, s10, none] H' := fun H' dv f hd =>
    law_e aw hz hf (Tx1.fr ⟨pl, z, w, a1, a2, a3, a4⟩ f) (h2.fr f) (f.oth _ _ hlw (by simp)) hd q
  subst a3
  refine ⟨_, rfl, fl, _, 0, _, rfl, rfl, sqL hfl, at0, rfl, _, rfl, ?_⟩
  unfold toldL at ht
  unfold toldD at fin
  generalize prg w.ws = A at ht fin
  cases A with
  | ok l j =>
    obtain ⟨rfl, hd⟩ := ht
    exact iteFb rfl (fin H rv Fr.refl hd)
  | no k s =>
    obtain ⟨t, rfl, ht⟩ := ht
    refine iteTb rfl ?_
    refine ⟨_, rfl, fl, _, 0, _, rfl, rfl, sqL hfl, at0, t, _, 1, _, rfl, rfl, sqT ht, at1, two_le, fun p hp => ?_⟩
    have f1 : Fr [] H (upd H p (.tup [.str "end", .str s])) := Fr.new hp
    have k1 : (upd H p (.tup [.str "end", .str s])) p = some (.tup [.str "end", .str s]) := upd_same
    generalize upd H p (.tup [.str "end", .str s]) = H1 at f1 k1
    have hfl1 := f1.oth _ _ hfl (by simp)
    have ht1 := f1.tup _ _ ht
    have a11 := f1.oth _ _ a1 (by simp)
    have a21 := f1.oth _ _ a2 (by simp)
    refine ⟨_, rfl, fl, _, 0, _, rfl, rfl, sqL hfl1, at0, t, _, 0, _, rfl, rfl, sqT ht1, at0, _, rfl, r1, _, 1, _, rfl, rfl, sqL a11, at1, pl, _, rfl, .inl (sqL a21), rfl, intL_flat _, _, rfl, ?_⟩
    by_cases c : k < w.ws.length
    · refine iteTb (in_ps a4 c) ?_
      obtain ⟨i1, i2, i3⟩ := ix_ps a4 c
      refine ⟨_, rfl, r1, _, 1, _, rfl, rfl, sqL a11, at1, .inl ⟨rfl, _, sqL a21⟩, _, rfl, fl, _, 0, _, rfl, rfl, sqL hfl1, at0, t, _, 0, _, rfl, rfl, sqT ht1, at0, pl, _, _, k, _, rfl, rfl, sqL a21, rfl, intL_flat _, i1, i2, i3, ?_⟩
      refine ⟨_, rfl, fl, _, 0, _, rfl, rfl, sqL hfl1, at0, t, _, 1, _, rfl, rfl, sqT ht1, at1, two_le, fun p2 hp2 => ?_⟩
      have f2 : Fr [] H1 (upd H1 p2 (.tup [.int (k : Int), .str s])) := Fr.new hp2
      refine fin _ _ (f1.trans f2) ?_
      show TD _ _ (.tuple [if k < w.ws.length then .int (k : Int) else .str "end", .str s])
      rw [if_pos c]
      exact TD.mk2 upd_same (.int _) (.str _)
    · refine iteFb (not_in_ps a4 c) ?_
      refine fin _ _ f1 ?_
      show TD _ _ (.tuple [if k < w.ws.length then .int (k : Int) else .str "end", .str s])
      rw [if_neg c]
      exact TD.mk2 k1 (.str _) (.str _)
/-- from the words on -/
theorem law_5 {W : List Str} {H : Hp} {a s lw : Addr} {s0 s2 s4 s5 s6 s7 s8 s9 s10 : Option V} {D : Ends} {E : XK} (t : TpS H a s) (hlw : H lw = some (.lst (W.map V.str))) (aw : AllW W) (hz : W.length ≤ 10000) (hf : ∀ l j, prg W = .ok l j → fits l) (q : ∀ H', D.rt (.bl true) H') :
    tl5 K E D [s0, some (.ref a), s2, some (.ref lw), s4, s5, s6, s7, s8, s9, s10, none] H := by
  refine ⟨_, rfl, _, rfl, a, s, lw, W, rfl, t, hlw, aw, hz, fun H1 r1 pl1 z1 ps1 f1 t1 hr1 hp1 L1 lz1 => ?_⟩
  have hlw1 := f1.oth _ _ hlw (by simpa using tps_ne t hlw)
  refine ⟨_, rfl, _, rfl, a, s, lw, W, rfl, t1, hlw1, aw, hz, fun H2 r2 pl2 z2 ps2 f2 t2 hr2 hp2 L2 lz2 => ?_⟩
  have hlw2 := f2.oth _ _ hlw1 (by simpa using tps_ne t1 hlw1)
  have hr12 := f2.oth _ _ hr1 (by simpa using tps_ne2 t1 hr1 (fun b h => by cases h))
  have hp12 := f2.oth _ _ hp1 (by simpa using tps_ne2 t1 hp1 (intL_head ps1))
  let w1 : Rw := ⟨W, ps1, z1.length, aw, L1.pls.1, by omega⟩
  let w2 : Rw := ⟨W, ps2, z2.length, aw, L2.pls.1, by omega⟩
  have x1 : Txs w1 z1 := ⟨L1, rfl, by show z1.length ≤ 1000000; omega⟩
  have x2 : Txs w2 z2 := ⟨L2, rfl, by show z2.length ≤ 1000000; omega⟩
  refine ⟨_, rfl, r1, _, 0, _, rfl, rfl, sqL hr12, at0, w1, z1, rfl, x1, fun H3 fl ev rv f3 hfl htl => ?_⟩
  refine ⟨_, rfl, fl, _, 1, _, rfl, rfl, sqL hfl, at1, ?_⟩
  exact law_d (w := w1) aw (by omega) hf (f3.oth _ _ hr12 (by simp)) (f3.oth _ _ hp12 (by simp)) rfl x1 (Tx1.fr ⟨pl2, z2, w2, hr2, hp2, rfl, x2⟩ f3) (f3.oth _ _ hlw2 (by simp)) hfl htl q
/-- words after k changes -/
def Edk (D : List Str) (k : Nat) (W : List Str) : Prop := (k = 0 ∧ W = D) ∨ (k = 1 ∧ Er D W) ∨ (k = 2 ∧ ∃ V, Er D V ∧ Er V W)
theorem Edk.fits {D W : List Str} {k w : Nat} (h : Edk D k W) (T : Tx D w) (hw : w ≤ 198) : ∀ l j, prg W = .ok l j → fits l := by
  rcases h with ⟨_, rfl⟩ | ⟨_, h⟩ | ⟨_, V, h1, h2⟩
  · exact two_fits T hw (Er.refl _) (Er.refl _)
  · exact two_fits T hw (Er.refl _) h
  · exact two_fits T hw h1 h2
theorem Edk.step {D V W : List Str} {k : Nat} (h : Edk D k V) (e : Er V W) (hk : k < 2) : Edk D (k + 1) W := by
  rcases h with ⟨rfl, rfl⟩ | ⟨rfl, h⟩ | ⟨rfl, _⟩
  · exact .inr (.inl ⟨rfl, e⟩)
  · exact .inr (.inr ⟨rfl, V, h, e⟩)
  · omega
def CN4 : List Int := [0, 0, 1, 2]
theorem cn4 {r : Nat} (h : r < max 4 1) : ∃ n : Int, (CN4.map V.int)[r]? = some (.int n) ∧ 0 ≤ n ∧ n ≤ 2 := by
  have e : ∀ r < 4, ((CN4[r]?).map fun n => decide (0 ≤ n ∧ n ≤ 2)) = some true := by decide
  obtain ⟨n, e1, e2⟩ := Option.map_eq_some_iff.mp (e r (by omega))
  have := of_decide_eq_true e2
  exact ⟨n, by rw [List.getElem?_map, e1]; rfl, this.1, this.2⟩
def spLaw (K : PySem.W.Frag) : Sp := fun vs H Q _ => ∃ (a : Addr) (ns : List Int), vs = [.ref a] ∧ SqL K H a (ns.map V.int) ∧ ns.length ≤ 1000000 ∧ ∀ H', Q (.bl true) H'
theorem sqL_fr {H H' : Hp} {a : Addr} {xs : List V} (f : Fr [] H H') (h : SqL K H a xs) : SqL K H' a xs := by
  rcases h with (h | ⟨o, h⟩) | h
  · exact .inl (.inl (f.oth _ _ h (by simp)))
  · exact .inl (.inr ⟨o, f.oth _ _ h (by simp)⟩)
  · exact .inr h
theorem pure_law (vs : List V) (H : Hp) (Q : VK) (E : XK) (h : spLaw K vs H Q E) : t_law K E { nx := fun _ H' => Q .non H', rt := Q } (start N_law vs) H := by
  obtain ⟨a0, ns, rfl, hS, hn, q⟩ := h
  refine ⟨_, rfl, a0, ns, rfl, hS, hn, fun H' f => sqL_fr f hS, fun H1 a s f1 _ _ T1 => ?_⟩
  refine ⟨_, rfl, _, rfl, a, s, 4, rfl, by decide, T1, fun H2 r f2 T2 hr => ⟨_, _, rfl, rfl, ?_⟩⟩
  refine ⟨a, s, r + 1, congrArg (fun z => [V.ref a, V.int z]) (by omega), by omega, by omega, T2, fun H3 ln nms f3 T3 _ hln hnl hGN => ?_⟩
  refine ⟨_, rfl, _, rfl, _, rfl, _, rfl, a, s, 60, rfl, by decide, T3, fun H4 r2 f4 T4 hr2 => ⟨_, _, rfl, rfl, one_le, fun rm hrm => ?_⟩⟩
  have hln4 := f4.oth _ _ hln (by simpa using tps_ne T3 hln)
  have f5 : Fr [] H4 (upd H4 rm (.lst [.int (1 + (r2 : Int))])) := Fr.new hrm
  have k5 : (upd H4 rm (.lst [.int (1 + (r2 : Int))])) rm = some (.lst [.int (1 + (r2 : Int))]) := upd_same
  have n5 := T4.nea hrm
  have nl : rm ≠ ln := fun z => by rw [z, hln4] at hrm; cases hrm
  have T5 := T4.fr0 f5
  have hln5 := f5.oth _ _ hln4 (by simp)
  replace hrm : H4 rm = none := hrm
  generalize upd H4 rm (.lst [.int (1 + (r2 : Int))]) = H5 at f5 k5 T5 hln5
  refine ⟨a, s, ln, rm, nms, 1 + (r2 : Int), rfl, ⟨T5, hln5, k5, tps_ne T5 hln5, n5.1, n5.2, nl, by omega, by omega⟩, by omega, fun H6 v l r3 f6 G6 h1 h2 tv dl db => ?_⟩
  refine ⟨a, s, v, l, nms, rfl, G6.tp, tv, dl, hGN, by omega, by omega, fun H7 lw D f7 T7 hlw tx => ?_⟩
  have hln7 := f7.oth _ _ G6.hn (by simpa using tps_ne G6.tp G6.hn)
  have pl61 : plcs l ≤ 61 := by omega
  -- the changes
  refine ⟨(show 4 ≤ sizeLine by decide), fun l4 hl4 => ?_⟩
  have f8 : Fr [] H7 (upd H7 l4 (.lst (CN4.map V.int))) := Fr.new hl4
  have n8 := T7.nea hl4
  have T8 := T7.fr0 f8
  refine ⟨_, rfl, a, s, 4, rfl, by decide, T8, fun H9 r4 f9 T9 hr4 => ?_⟩
  obtain ⟨n, en, hn0, hn2⟩ := cn4 hr4
  refine ⟨l4, _, _, _, rfl, rfl, sqL (f9.oth _ _ upd_same (by simpa using n8.1)), atI_nat en, _, rfl, by omega, by omega, ?_⟩
  have hlw8 := f8.oth _ _ hlw (by simp)
  have hlw9 := f9.oth _ _ hlw8 (by simpa using tps_ne T8 hlw8)
  have hln8 := f8.oth _ _ hln7 (by simp)
  have hln9 := f9.oth _ _ hln8 (by simpa using tps_ne T8 hln8)
  obtain ⟨nm0, nmr, hnm⟩ : ∃ x y, nms = x :: y := by
    cases nms with
    | nil => simp at hnl
    | cons x y => exact ⟨x, y, rfl⟩
  refine for_range (fun k σ H' => ∃ (lw : Addr) (W : List Str) (p4 : Option V), σ = [some (.ref a0), some (.ref a), some (.ref ln), some (.ref lw), p4, none, none, none, none, none, none, none] ∧ TpS H' a s ∧ H' ln = some (.lst (nms.map V.str)) ∧ H' lw = some (.lst (W.map V.str)) ∧ Edk D k W ∧ AllW W ∧ W.length ≤ 2441 + k)
    ⟨lw, D, none, rfl, T9, hln9, hlw9, .inl ⟨rfl, rfl⟩, tx.1.ok, by have := tx.2; omega⟩ ?_ ?_
  · rintro k σ H10 hk ⟨lw, W, p4, rfl, T10, hln10, hlw10, he, aw, hl⟩
    have at_nm : atI (nms.map V.str) (0 : Int) = some (.str nm0) := by rw [hnm]; exact at0
    refine ⟨_, rfl, _, rfl, _, rfl, ln, _, 0, _, rfl, rfl, sqL hln10, at_nm, a, s, lw, nm0, W, rfl, T10, hlw10, aw, (hGN nm0 (by rw [hnm]; exact List.mem_cons_self ..)).1, by omega, fun H11 lr ws f11 T11 hlr er aw2 hl2 => ?_⟩
    exact ⟨lr, ws, _, rfl, T11, f11.oth _ _ hln10 (by simpa using tps_ne T10 hln10), hlr, he.step er (by omega), aw2, by omega⟩
  · rintro σ H10 ⟨lw, W, p4, rfl, T10, hln10, hlw10, he, aw, hl⟩
    exact law_5 T10 hlw10 aw (by omega) (he.fits tx.1 (by omega)) q
theorem law_body (T : Txt K mg) {cdv : Value} {A : Around} {outer : List Env} {s : Shared} {H : Hp} {E : XK} {f : Addr} {wd : World} (hr : RoomS 315 (A.deeper (envOfC "law" (defScope s_law) s.heap.objs.size f cdv))) : PSs (cxS R0 wd K mg base N_law "law" (defScope s_law) f cdv A outer s H E) (defBody s_law) (t_law K E) := by
  exact (pss_cons (ps_set (i := 1) sc_law.nd rfl (Or.inl rfl) (pc (ok_tape T) hr (by omega) passE rfl (pa_cons (pv 0) pa_nil)))
      (pss_cons (ps_set (i := 2) sc_law.nd rfl (Or.inl rfl) (pc (ok_names T) hr (by omega) passE rfl (pa_cons (pv 1) (pa_cons (pe_op op_add pe_int (pc (ok_draw T) hr (by omega) passE rfl (pa_cons (pv 1) (pa_cons pe_int pa_nil)))) pa_nil))))
      (pss_cons (ps_set (i := 3) sc_law.nd rfl (Or.inl rfl) (pc (ok_spoken T 7) hr (by omega) passE rfl (pa_cons (pv 1) (pa_cons (pc (ok_tree T 6) hr (by omega) passE rfl (pa_cons (pv 1) (pa_cons (pv 2) (pa_cons (pe_lst (pa_cons (pe_op op_add pe_int (pc (ok_draw T) hr (by omega) passE rfl (pa_cons (pv 1) (pa_cons pe_int pa_nil)))) pa_nil)) (pa_cons pe_int pa_nil))))) pa_nil))))
      (pss_cons (ps_for ownE rfl (pi_range1 rfl T.f_range (pa_cons (pe_ix ix_list (pe_lst (pa_cons pe_int (pa_cons pe_int (pa_cons pe_int (pa_cons pe_int pa_nil))))) (pc (ok_draw T) hr (by omega) passE rfl (pa_cons (pv 1) (pa_cons pe_int pa_nil))) (fun _ _ => rfl)) pa_nil)) (pg_name (i := 4) sc_law.nd rfl (Or.inl rfl)) (pss_one (ps_set (i := 3) sc_law.nd rfl (Or.inl rfl) (pc (ok_spoilt T) hr (by omega) passE rfl (pa_cons (pv 1) (pa_cons (pv 3) (pa_cons (pe_ix ix_list (pv 2) pe_int (fun _ _ => rfl)) pa_nil)))))))
      (pss_cons (ps_set (i := 5) sc_law.nd rfl (Or.inl rfl) (pc (ok_spaced T) hr (by omega) passE rfl (pa_cons (pv 1) (pa_cons (pv 3) pa_nil))))
      (pss_cons (ps_set (i := 6) sc_law.nd rfl (Or.inl rfl) (pc (ok_spaced T) hr (by omega) passE rfl (pa_cons (pv 1) (pa_cons (pv 3) pa_nil))))
      (pss_cons (ps_set (i := 7) sc_law.nd rfl (Or.inl rfl) (pc (okA_ltext T) hr (by omega) passE rfl (pa_cons (pe_ix ix_list (pv 5) pe_int (fun _ _ => rfl)) pa_nil)))
      (pss_cons (ps_set (i := 8) sc_law.nd rfl (Or.inl rfl) (pe_ix ix_list (pv 7) pe_int (fun _ _ => rfl)))
      (pss_cons (ps_if (pt_cmpR op_notN (pe_ix ix_list (pv 7) pe_int (fun _ _ => rfl)) pe_non (nomark _)) (pss_cons (ps_set (i := 8) sc_law.nd rfl (Or.inl rfl) (pe_tup (pa_cons pe_str (pa_cons (pe_ix ix_tup (pe_ix ix_list (pv 7) pe_int (fun _ _ => rfl)) pe_int (fun _ _ => rfl)) pa_nil))))
      (pss_one (ps_if (pt_cmpR op_in_seq (pe_ix ix_tup (pe_ix ix_list (pv 7) pe_int (fun _ _ => rfl)) pe_int (fun _ _ => rfl)) (pe_ix ix_list (pv 5) pe_int (fun _ _ => rfl)) (by rfl)) (pss_one (ps_set (i := 8) sc_law.nd rfl (Or.inl rfl) (pe_tup (pa_cons (pe_bm PySem.F.plainAttrs_list PySem.F.slot_list_index PySem.F.type_list_index mt_index (pe_ix ix_list (pv 5) pe_int (fun _ _ => rfl)) (pa_cons (pe_ix ix_tup (pe_ix ix_list (pv 7) pe_int (fun _ _ => rfl)) pe_int (fun _ _ => rfl)) pa_nil)) (pa_cons (pe_ix ix_tup (pe_ix ix_list (pv 7) pe_int (fun _ _ => rfl)) pe_int (fun _ _ => rfl)) pa_nil))))) pss_nil))) pss_nil)
      (pss_cons (ps_for ownE rfl (pi_list (pe_lst (pa_cons (pv 5) (pa_cons (pv 6) pa_nil)))) (pg_name (i := 9) sc_law.nd rfl (Or.inl rfl)) (pss_cons (ps_set (i := 10) sc_law.nd rfl (Or.inl rfl) (pcO rfl (ok_tokens T) hr.room (by omega) passE rfl (pa_cons (pe_ix ix_list (pv 9) pe_int (fun _ _ => rfl)) pa_nil)))
      (pss_cons (ps_if (PW.pt (pw_or (pt_cmpR (op_neD hr.hu) (pe_lc (own := [("_law_row", 11)]) (g := gName 11) (tt := tYes) rfl sc_law.nd (pi_tup (pv 10)) (blkOk_by (N := N_law) (sc := defScope s_law) (by decide +kernel)) (fun _ _ _ _ _ => pg_name (i := 11) sc_law.nd rfl (Or.inl rfl)) (fun _ _ _ _ _ => pts_nil) (fun _ _ _ _ _ => (pe_ix ix_tup (pv 11) pe_int (fun _ _ => rfl)))) (pv 3) (nomark _)) (pw_or1 (pt_cmpR (op_neD hr.hu) (pe_lc (own := [("_law_row", 11)]) (g := gName 11) (tt := tYes) rfl sc_law.nd (pi_tup (pv 10)) (blkOk_by (N := N_law) (sc := defScope s_law) (by decide +kernel)) (fun _ _ _ _ _ => pg_name (i := 11) sc_law.nd rfl (Or.inl rfl)) (fun _ _ _ _ _ => pts_nil) (fun _ _ _ _ _ => (pe_ix ix_tup (pv 11) pe_int (fun _ _ => rfl)))) (pe_ix ix_list (pv 9) pe_int (fun _ _ => rfl)) (nomark _))))) (pss_one (ps_ret pe_bl)) pss_nil)
      (pss_one (ps_if (pt_cmpR op_ne (pe_callB (call_reprB hr) rfl T.f_repr (by decide +kernel) (pa_cons (pc (okA_told T) hr (by omega) passE rfl (pa_cons (pv 9) pa_nil)) pa_nil)) (pe_callB (call_reprB hr) rfl T.f_repr (by decide +kernel) (pa_cons (pv 8) pa_nil)) (nomark _)) (pss_one (ps_ret pe_bl)) pss_nil)))))
      (pss_one (ps_ret (pe_cmpR (op_eqD hr.hu) (pe_lc (own := [("_law_row", 11)]) (g := gName 11) (tt := tYes) rfl sc_law.nd (pi_tup (pcO rfl (ok_tokens T) hr.room (by omega) passE rfl (pa_cons (pe_ix ix_list (pv 5) pe_int (fun _ _ => rfl)) pa_nil))) (blkOk_by (N := N_law) (sc := defScope s_law) (by decide +kernel)) (fun _ _ _ _ _ => pg_name (i := 11) sc_law.nd rfl (Or.inl rfl)) (fun _ _ _ _ _ => pts_nil) (fun _ _ _ _ _ => (pe_ix ix_tup (pv 11) pe_int (fun _ _ => rfl)))) (pe_lc (own := [("_law_row", 11)]) (g := gName 11) (tt := tYes) rfl sc_law.nd (pi_tup (pcO rfl (ok_tokens T) hr.room (by omega) passE rfl (pa_cons (pe_ix ix_list (pv 6) pe_int (fun _ _ => rfl)) pa_nil))) (blkOk_by (N := N_law) (sc := defScope s_law) (by decide +kernel)) (fun _ _ _ _ _ => pg_name (i := 11) sc_law.nd rfl (Or.inl rfl)) (fun _ _ _ _ _ => pts_nil) (fun _ _ _ _ _ => (pe_ix ix_tup (pv 11) pe_int (fun _ _ => rfl)))) (nomark _))))))))))))))
end
end K18

/-! WI: the end: a law called from outside, over the room of our own. -/
namespace K18
open PySem PySem.Spec L2
open PyProof.Rows hiding St
theorem room_caller : RoomS 316 callerA := ⟨rfl, by decide, by decide, rfl⟩
section
variable {P : Program} {w : World} {K : PySem.W.Frag} {mg mb : Str → Option Value} {k : Nat} {fa a : Addr} {fd : FuncData} {x : Str} {sp : Sp} {s : Shared} {vs : List Value} {ns : List Int}
/-- what is known where the law is called -/
structure Gd (K : PySem.W.Frag) (mg mb : Str → Option Value) (a : Addr) (s : Shared) (vs : List Value) (ns : List Int) : Prop where
  k : K.In s.heap
  g : s.heap.Ns mainGlobals mg
  b : s.heap.Ns builtinsNs mb
  bb : ∀ x : Str, x ≠ "__name__" → mb x = bootBuiltins x
  lim : s.heap.NoLimit
  gens : s.gens = #[]
  at_ : s.heap.get? a = some { cls := .type "list", data := .seq vs.toArray }
  nums : IntsAre vs ns
  small : ns.length ≤ sizeLine
/-- H tells of nothing but the script -/
structure Hs (P : Program) (w : World) (K : PySem.W.Frag) (a : Addr) (s : Shared) (ns : List Int) (H : Hp) : Prop where
  only : L2.Only H
  script : SqL K H a (ns.map V.int)
  ok : HOk P w H s.heap
  at_ : ∀ b, H b ≠ none → b = a
  out : H a ≠ none → K.lookup a = none
theorem Gd.hid (G : Gd K mg mb a s vs ns) {H : Hp} (Z : Hs P w K a s ns H) : (∀ (b : Addr) (m : Str → Option Value), s.heap.Ns b m → (hidT s.heap H).Ns b m) ∧ K.In (hidT s.heap H) := by
  have off : ∀ b, b ≠ a → H b = none := fun b n => Classical.byContradiction fun z => n (Z.at_ b z)
  refine ⟨fun b m h => ?_, fun b o e => ?_⟩
  · obtain ⟨o, es, ep, e, d, r⟩ := h
    have n : b ≠ a := fun z => by
      rw [z, G.at_] at e
      cases e
      cases d
    exact ⟨o, es, ep, hidT_get e (off b n), d, r⟩
  · refine hidT_get (G.k b o e) (Classical.byContradiction fun z => ?_)
    have ab := Z.at_ b z
    subst ab
    have := Z.out z
    rw [this] at e
    cases e
theorem Gd.run (G : Gd K mg mb a s vs ns) {H : Hp} (Z : Hs P w K a s ns H) (hr : RoomS k callerA) (F : ∀ base : Heap, FnS P w K mg base k fa fd [x] sp) (bd : BindsTo s fd ⟨[.ref a], []⟩ [(x, .ref a)])
    (h : sp [.ref a] H (fun v _ => v = .bl true) fun _ _ _ => False) :
    codeAny (model P w) callerA (.call (.ref fa) ⟨[.ref a], []⟩) (fun r t => r = .ok (.ret (.bool true)) ∧ OldK s.heap t.heap ∧ t.os = s.os ∧ AllBare t.gens) s := by
  obtain ⟨nsK, inK⟩ := G.hid Z
  have lim : (hidT s.heap H).NoLimit := by
    obtain ⟨m, l1, l2⟩ := G.lim
    exact ⟨m, nsK _ _ l1, l2⟩
  have env : Env0 P w K mg (hidT s.heap H) callerA [] s H :=
    ⟨rfl, ⟨inK, nsK _ _ G.g, ⟨mb, nsK _ _ G.b, G.bb⟩, lim⟩, fun b o e => of_hidT e, Nat.le_of_eq (hidT_size _ _), trivial, fun b hb => (List.not_mem_nil hb).elim, Z.ok, .of_eq G.gens⟩
  have go := (F (hidT s.heap H)).run callerA [] s H ⟨[.ref a], []⟩ [.ref a] [.ref a] _ _ hr env bd (.cons rfl .nil) h
  refine codeAny_mono go fun r t q => ?_
  match r, q with
  | .error e, q =>
    obtain ⟨_, _, _, _, _, _, _, _, _, _, _, _, z⟩ := q
    exact z.elim
  | .ok (.ret u), ⟨v, H', os, bare, un, ok', rv, ev⟩ =>
    have ev' : v = .bl true := ev
    subst ev'
    obtain rfl : u = Value.bool true := rv
    refine ⟨rfl, OldK.of_keep fun b o e => ?_, os, bare⟩
    by_cases c : H b = none
    · exact un.keep b o e c (fun z => (List.not_mem_nil z).elim) (fun z => (List.not_mem_nil z).elim)
    · rcases Z.only b with z | ⟨ob, xs, z⟩
      · exact absurd z c
      · obtain ⟨e1, _⟩ := Z.ok b _ z
        obtain ⟨e2, _⟩ := ok' b _ (un.frzs b ob _ z)
        rw [e] at e1
        cases e1
        exact e2
theorem Gd.call (G : Gd K mg mb a s vs ns) (hr : RoomS k callerA) (F : ∀ base : Heap, FnS P w K mg base k fa fd [x] sp) (bd : BindsTo s fd ⟨[.ref a], []⟩ [(x, .ref a)])
    (h : ∀ H : Hp, SqL K H a (ns.map V.int) → sp [.ref a] H (fun v _ => v = .bl true) fun _ _ _ => False) :
    codeAny (model P w) callerA (.call (.ref fa) ⟨[.ref a], []⟩) (fun r t => r = .ok (.ret (.bool true)) ∧ OldK s.heap t.heap ∧ t.os = s.os ∧ AllBare t.gens) s := by
  have nums := L2.vals_ints G.nums
  have len : vs.length = ns.length := G.nums.length
  by_cases c : ∃ o, K.lookup a = some o
  · -- an object of the module's own
    obtain ⟨o, c⟩ := c
    have e := (G.k a o c).symm.trans G.at_
    cases e
    have sq : SqL K (fun _ => none) a (ns.map V.int) := .inr ⟨_, vs.toArray, _, c, rfl, rfl, rfl, by have := G.small; simp only [List.size_toArray]; omega, by simpa using nums⟩
    exact G.run ⟨fun b => .inl rfl, sq, (fun b u z => by cases z), fun b z => absurd rfl z, fun z => absurd rfl z⟩ hr F bd (h _ sq)
  · let Z : Hp := fun b => if b = a then some (.frz { cls := .type "list", data := .seq vs.toArray } (.lst (ns.map V.int))) else none
    have za : Z a = some (.frz { cls := .type "list", data := .seq vs.toArray } (.lst (ns.map V.int))) := if_pos rfl
    have zb : ∀ b, b ≠ a → Z b = none := fun b n => if_neg n
    have sq : SqL K Z a (ns.map V.int) := .inl (.inr ⟨_, za⟩)
    refine G.run (H := Z) ⟨fun b => ?_, sq, fun b u z => ?_, fun b z => Classical.byContradiction fun n => z (zb b n), fun _ => ?_⟩ hr F bd (h _ sq)
    · by_cases n : b = a
      · rw [n]
        exact .inr ⟨_, _, za⟩
      · exact .inl (zb b n)
    · by_cases n : b = a
      · rw [n] at z ⊢
        rw [za] at z
        cases z
        exact ⟨G.at_, by rw [List.length_map]; exact G.small, vs, _, nums, G.at_⟩
      · rw [zb b n] at z
        cases z
    · cases l : K.lookup a with
      | none => rfl
      | some o => exact absurd ⟨o, l⟩ c
end
end K18

/-! WJ: the theorem. -/
namespace K18
open PySem PySem.Spec L2
open PyProof.Rows hiding St
/-- a law walked over the room of our own -/
theorem walk_s {l : PySem.W.OpenLaw} {n k : Nat} {q : Program} {loose : List Str} {XP : (Str → Option Value) → Heap → Prop} {YP : World → Heap → Prop} {d : DefRec} {x : Str}
    (hn : l.most = some n) (hn2 : n ≤ sizeLine) (hdf : d.params.defaults = []) (hr : RoomS k callerA)
    (F : ∀ (w : World) (mg : Str → Option Value) (fa : Addr) (h : Heap), YP w h → h.Ns mainGlobals mg → mg d.name = some (.ref fa) → ∃ (K : PySem.W.Frag) (fd : FuncData) (sp : Sp), K.In h ∧
      (∀ (s : Shared) (u : Value), BindsTo s fd ⟨[u], []⟩ [(x, u)]) ∧ (∀ (H : Hp) (a : Addr) (ns : List Int), ns.length ≤ n → SqL K H a (ns.map V.int) → sp [.ref a] H (fun v _ => v = .bl true) fun _ _ _ => False) ∧
      ∀ base : Heap, FnS l.prog w K mg base k fa fd [x] sp) : PySem.W.WalkO q loose XP YP l.row.toRowW d [] (fun f vs => PySem.call f vs) := by
  refine Att.attach_call hn hdf fun w s₀ s mg mb fa o pm cd doc a vs ns G Y _ _ _ hmg hobj hints hlen hg => ?_
  obtain ⟨K, fd, sp, KX, hb, hsp, hF⟩ := F w mg fa _ Y G.T.g hmg
  exact Gd.call (mg := mg) (mb := mb) ⟨KX, G.T.g, G.T.b, G.T.builtins, G.T.nolimit, hg, hobj, hints, Nat.le_trans hlen hn2⟩ hr hF (hb s _) fun H hS => hsp H a ns hlen hS
theorem facts {w : World} {K : PySem.W.Frag} {h : Heap} {mg : Str → Option Value} {f : Addr} (X : K.In h) (G : h.Ns mainGlobals mg) (hfa : mg ("law" : Str) = some (.ref f)) (c : obsA K = valA) :
    ∃ fd : FuncData, (∀ (s : Shared) (u : Value), BindsTo s fd ⟨[u], []⟩ [("_law_script", u)]) ∧ ∀ base : Heap, FnS R0 w K mg base 316 f fd ["_law_script"] (spLaw K) := by
  have T := txt_of X G c
  obtain ⟨fd0, F0⟩ := T.d_law
  have e := hfa.symm.trans T.g_law
  cases e
  have b := FunD.bindsA (ps := ["_law_script"]) F0 fun _ _ _ _ _ _ us hl => match us, hl with | [_], _ => rfl
  refine ⟨fd0, fun s u => b s [u] rfl, fun base => ?_⟩
  refine fn_s F0 sc_law (fun vs H Q E h => ?_) (fun cdv A outer s H vs Q E hr h => ⟨t_law K E, ?_, pure_law vs H Q E h⟩)
  · obtain ⟨a, ns, rfl, _⟩ := h
    rfl
  · exact law_body T hr
end K18

open PySem PySem.W PySem.Calls PyProof.Rows
theorem PySem.Challenge.cw_flowform_k18_whole_only_tokens_matter_holds : PySem.Challenge.rw_flowform_k18_whole_only_tokens_matter.Holds := by
  w_on; o_law
  refine HandSHeadRun.head_any (r := K18.RW) (q := view K18.RW.prog [68]) (H := K18.hkA) (ob := K18.obA) (M := 30000) (loose := K18.loose) (d := HandSHeadRun.topDef K18.RW.prog 68) (kwd := []) K18.obA_eq
    (by kernel_rfl) (fun s => by kernel_rfl) K18.run (by kernel_rfl) (by kernel_rfl) (by kernel_rfl) (by rfl) (by first | assumption | decide +kernel) (by decide +kernel) ⟨rfl, rfl, rfl, rfl, rfl, by decide +kernel⟩ ?hw ?hc
  case hw => w_witness2
  case hc =>
    refine K18.walk_s (l := PySem.Challenge.rw_flowform_k18_whole_only_tokens_matter) (n := 63) (k := 316) (x := "_law_script") rfl (by decide) (by kernel_rfl) K18.room_caller ?F
    intro w mg fa h Y G hmg0
    obtain ⟨K, KX, c⟩ := Y
    have hmg : mg ("law" : PySem.Str) = some (.ref fa) := by
      have e : (HandSHeadRun.topDef K18.RW.prog 68).name = ("law" : PySem.Str) := by kernel_rfl
      rw [← e]
      exact hmg0
    obtain ⟨fd, hb, hF⟩ := K18.facts (w := w) KX G hmg c
    exact ⟨K, fd, K18.spLaw K, KX, hb, fun H a ns hl hS => ⟨a, ns, rfl, hS, Nat.le_trans hl (by decide), fun _ => rfl⟩, hF⟩
