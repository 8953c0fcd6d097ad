import PyProof.Rows.All
import Wide.All
import OpenK.AllK
import Wide.FinOn
import HandS.ForMost
import HandS.IsInst
import HandS.Walk
import HandS.Flow
import HandS.Conv
import HandS.Wide
import HandS.TupAny
import HandS.RaiseMore
import HandS.Defaults
import HandS.More
import HandS.Strs
import HandS.SetBool
import HandS.SetKeys
import HandS.NoneIn
import HandS.SortKw
import KE.GoesEnumKw
import KE.KUnpackStar
import HandS.Exc
import HandS.ExcInit
import HandS.ExcField
import HandS.ExcIs
import HandS.WordsExc
import KE.KExcIs
import HandS.Lambda
import HandS.EndTab
import HandS.TupSets
import HandS.Deep
import PySem.Challenge.RW_tablekin_k07_whole_texts_of_no_table
set_option Elab.async false
set_option linter.all false
set_option maxRecDepth 100000
set_option maxHeartbeats 4000000
namespace Tk
open PySem PySem.Spec PyProof.Rows L2

/-! ## defs whose frames run under no running repr -/
/-- no repr is running around -/
abbrev Gd (A : Around) : Prop := A.guards = some []
theorem Gd.dp {A : Around} (g : Gd A) (v : Env) : Gd (A.deeper v) := g

/-- as FnOk, where no repr is running -/
structure FnG (P : Program) (w : World) (K : PySem.W.Frag) (mg : Str → Option Value)
    (base : Heap) (CX : CXT) (k : Nat) (f : Addr) (fd : FuncData) (ps : List Str) (sp : Sp) : Prop where
  len : ∀ vs H Q E, sp vs H Q E → vs.length = ps.length
  run : ∀ (A : Around) (outer : List Env) (s : Shared) (H : Hp) (args : Args) (us : List Value)
      (vs : List V) (Q : VK) (E : XK), Gd A → Room k A → Env0 P w K mg base A outer s H →
      BindsTo s fd args (ps.zip us) → Vals vs us → sp vs H Q E →
      codeAny (model P w) A (.call (.ref f) args) (CR CX outer P w H s Q E) s

section
variable {P : Program} {w : World} {K : PySem.W.Frag} {mg : Str → Option Value} {base : Heap}
  {CX : CXT} {j k : Nat} {f : Addr} {fd : FuncData} {ps : List Str} {sp sp' : Sp}
theorem FnG.mono (F : FnG P w K mg base CX j f fd ps sp) (h : j ≤ k) :
    FnG P w K mg base CX k f fd ps sp where
  len := F.len
  run := fun A outer s H args us vs Q E g hr =>
    F.run A outer s H args us vs Q E g (hr.mono h)
theorem FnG.imp (F : FnG P w K mg base CX k f fd ps sp)
    (h : ∀ vs H Q E, sp' vs H Q E → sp vs H Q E) : FnG P w K mg base CX k f fd ps sp' where
  len := fun vs H Q E q => F.len vs H Q E (h vs H Q E q)
  run := fun A outer s H args us vs Q E g hr e0 hb r q =>
    F.run A outer s H args us vs Q E g hr e0 hb r (h vs H Q E q)
end

section
variable {X : Cx} {CX : CXT} {k : Nat} {f C : Addr} {fd : FuncData} {ps : List Str} {sp : Sp}
  {dvs : List V} {ds : List Value} {E : XK} {x m : Str} {p pos apos : Pos} {e o : Expr}
  {es : List Expr} {ta : TE} {t : TA}
theorem goFn {pins : List (Addr × Obj)} {σ : List (Option V)} {H : Hp} {s : Shared} {Q : VK} {us : List Value}
    {vs : List V} (F : FnG X.prog X.w X.K X.mg X.base CX k f fd ps sp) (g : Gd X.A) (hr : Room k X.A)
    (hb : Binds X.K fd ps ds) (hd : Vals dvs ds) (hx : Passes CX X E) (I : Inv X pins σ H s)
    (r : Vals vs us) (q : sp (vs ++ dvs) H Q E) :
    wpAny (model X.prog X.w) X.A (call (.ref f) us) (EP X pins σ Q) X.xe s := by
  have both : Vals (vs ++ dvs) (us ++ ds) := r.append hd
  have many : (us ++ ds).length = ps.length := both.length ▸ F.len _ _ _ _ q
  have go := F.run X.A X.stack s H ⟨us, []⟩ (us ++ ds) (vs ++ dvs) Q E g hr I.env0 (hb s us I.kIn many) both q
  refine wpAny_call (codeAny_mono go ?_)
  intro res s' done
  match res, done with
  | .error e, done => exact hx pins σ H s e s' I done
  | .ok (.ret u), done => exact I.after done
  | .ok .next, done => exact done.elim
  | .ok .brk, done => exact done.elim
  | .ok .cont, done => exact done.elim

theorem pe_cl (F : FnG X.prog X.w X.K X.mg X.base CX k f fd ps sp) (g : Gd X.A) (hr : Room k X.A)
    (hg : Gl X x) (hm : X.mg x = some (.ref f)) (hk : PySem.W.keepIn X.K (.ref f) = true)
    (hb : Binds X.K fd ps ds) (hd : Vals dvs ds) (hx : Passes CX X E) (ha : PA X (e :: es) t)
    (hdb : (x == ("__debug__" : Str)) = false := by decide)
    (he : starEach (e :: es) X.env = (false, eval e X.env) :: starEach es X.env := by rfl)
    (hpl : (backTo pos (starEach es X.env)).any (·.1) = false := by rfl) :
    PE X (.Call (.Name x p) (e :: es) [] pos) (tCall sp dvs E t) :=
  ⟨fun pins s σ H Q I h => wpAny_Call_Name_kw (ld_glob I hg hm
    (PySem.W.callWith_K (h₀ := X.base) I.ok.mod.kin hk
      (thn (ha.run pos pins s σ H _ I h) fun us s1 ⟨vs, H1, I1, r, q⟩ =>
        ⟨I1.kIn, goFn F g hr hb hd hx I1 r q⟩) he hpl) hdb)⟩
theorem pe_cl0 (F : FnG X.prog X.w X.K X.mg X.base CX k f fd ps sp) (g : Gd X.A) (hr : Room k X.A)
    (hg : Gl X x) (hm : X.mg x = some (.ref f)) (hk : PySem.W.keepIn X.K (.ref f) = true)
    (hb : Binds X.K fd ps ds) (hd : Vals dvs ds) (hx : Passes CX X E)
    (hdb : (x == ("__debug__" : Str)) = false := by decide) :
    PE X (.Call (.Name x p) [] [] pos) (tCall sp dvs E tNil) :=
  ⟨fun pins s σ H Q I h => wpAny_Call_Name_kw (ld_glob I hg hm
    (PySem.W.callWith_K0 I.kIn hk (goFn (us := []) F g hr hb hd hx I .nil h)) hdb)⟩
end

/-- a def by its body -/
theorem fnG_of {CX : CXT} {P : Program} {w : World} {K : PySem.W.Frag} {mg : Str → Option Value}
    {base : Heap} {k : Nat} {f : Addr} {name qual : Str} {params : Arguments} {body : List Stmt}
    {scope : Scope} {dV kV doc pm cdv ct oc : Value} {an od : Option Addr} {osl : Array (Option Value)}
    {N ps : List Str} {sp : Sp}
    (lk : K.lookup f = some ⟨oc, od, .func (PySem.W.fnOf name qual params body scope dV kV doc pm an cdv ct), osl⟩)
    (hcd : PySem.W.codeIn K cdv qual = true) (S : FnScope N ps scope)
    (len : ∀ vs H Q E, sp vs H Q E → vs.length = ps.length)
    (hbody : ∀ (A : Around) (outer : List Env) (s : Shared) (H : Hp) (vs : List V) (Q : VK) (E : XK),
      Gd A → Room k (A.deeper (envOfC qual scope s.heap.objs.size f cdv)) → sp vs H Q E →
      ∃ t, PSs (cxOf CX P w K mg base N qual scope f cdv A outer s H E) body t ∧
        t { nx := fun _ H' => Q .non H', rt := Q } (start N vs) H) :
    FnG P w K mg base CX (k + 1) f (PySem.W.fnOf name qual params body scope dV kV doc pm an cdv ct) ps sp := by
  constructor
  · exact len
  intro A outer s H args us vs Q E g hr e0 hb r q
  have many := len _ _ _ _ q
  have KX : K.In s.heap := e0.mod.kin.keeps fun b o z => (e0.bs b o z).1
  have lim : s.heap.NoLimit := e0.mod.nolimit.keeps fun b o z => (e0.bs b o z).1
  have kinds : ∀ y ∈ ps.zip us, scope.names.lookup y.1 = some .local ∨
      (scope.names.lookup y.1 = some .cell ∧ ((cellsFrom (s.heap.objs.size + 1) scope.names []).lookup y.1).isSome = true) := by
    rintro ⟨n, v⟩ hy
    cases S.par n (List.of_mem_zip hy).1 with
    | inl z => exact .inl z
    | inr z => exact .inr ⟨z, PySem.W.cellsFrom_some _ _ _ (.inl z)⟩
  refine codeAny_call_function hr.depth (KX _ _ lk) rfl S.co S.gen rfl (PySem.W.codeRec_of KX hcd) (hb _ _ _ _ ?_)
  refine wpAny_newFunctionEnv_cells S.kind kinds ?_
  rintro env rfl s1 x
  refine ⟨lim.keeps x.toInCall.keep, codeAny_func ?_⟩
  obtain ⟨t, ht, hq⟩ := hbody A outer s H vs Q E g (hr.deeper _) q
  have I : Inv (cxOf CX P w K mg base N qual scope f cdv A outer s H E) [] (start N vs) H s1 :=
    inv_start S hr.hd e0 many r x
  refine wpAny_mono (ht.run [] s1 (start N vs) H _ I hq) ?_ (fun _ _ z => z)
  intro fl s' hs
  match fl, hs with
  | .ret u, ⟨v, σ', H', J, rv, q'⟩ => exact ⟨v, H', J.os, J.bare, J.base, J.hok, rv, q'⟩
  | .next, ⟨σ', H', J, q'⟩ => exact ⟨V.non, H', J.os, J.bare, J.base, J.hok, rfl, q'⟩
  | .brk, ⟨_, _, _, q'⟩ => exact q'.elim
  | .cont, ⟨_, _, _, q'⟩ => exact q'.elim

/-- a def of the text that lets no exception out -/
theorem okG {P : Program} {w : World} {K : PySem.W.Frag} {mg : Str → Option Value} {base : Heap}
    {x qual : Str} {st : Stmt} {f : Addr} {fd : FuncData} {N ps : List Str} {k : Nat} {sp : Sp}
    (F : Fun K x qual st f fd) (S : FnScope N ps (defScope st))
    (len : ∀ vs H Q E, sp vs H Q E → vs.length = ps.length)
    (hbody : ∀ (cdv : Value) (A : Around) (outer : List Env) (s : Shared) (H : Hp) (vs : List V)
      (Q : VK) (E : XK), Gd A → Room k (A.deeper (envOfC qual (defScope st) s.heap.objs.size f cdv)) →
      sp vs H Q E → ∃ t, PSs (cxOf CX0 P w K mg base N qual (defScope st) f cdv A outer s H E).nox (defBody st) t ∧
        t { nx := fun _ H' => Q .non H', rt := Q } (start N vs) H) :
    FnG P w K mg base CX0 (k + 1) f fd ps sp := by
  obtain ⟨oc, od, kV, doc, pm, an, cdv, ct, osl, e, lk, hcd⟩ := F.ex
  subst e
  refine fnG_of lk hcd S len ?_
  intro A outer s H vs Q E g hr q
  obtain ⟨t, h, z⟩ := hbody cdv A outer s H vs Q E g hr q
  exact ⟨t, h.nox, z⟩

/-! ## tuples whose object is known to have no dict -/
abbrev TupF (H : Hp) (a : Addr) (xs : List V) : Prop := ∃ o : Obj, H a = some (.frz o (.tup xs)) ∧ o.dict = none
section
variable {X : Cx} {pos : Pos} {es : List Expr} {t : TA}
theorem laidT {pins : List (Addr × Obj)} {σ : List (Option V)} {H : Hp} {s : Shared} {xs : List V} {us : List Value} (I : Inv X pins σ H s) (r : Vals xs us) (z : xs.length ≤ sizeLine) :
    Inv X pins σ (upd H s.heap.objs.size (.frz { cls := .type "tuple", data := .seq us.toArray } (.tup xs))) { s with heap := s.heap.push { cls := .type "tuple", data := .seq us.toArray } } :=
  I.laid (t' := s.toks) (fun _ _ e => Heap.get?_push_of_some _ e) (Nat.le_refl _) ⟨Heap.get?_push_size _ rfl, z, us, r, IsTup.new _ _⟩
/-- a tuple display -/
def tTupF (t : TA) : TE := fun σ H Q => t σ H fun xs H1 => xs.length ≤ sizeLine ∧ ∀ (p : Addr) (o : Obj), H1 p = none → o.dict = none → Q (.ref p) (upd H1 p (.frz o (.tup xs)))
theorem pe_tupF {x1} (h : PA X es t) : PE X (.Tuple es x1 pos) (tTupF t) := by
  constructor
  intro pins s σ H Q I hq
  refine wpAny_Tuple_spliced (thn (h.run pos pins s σ H _ I hq) ?_)
  rintro us s1 ⟨xs, H1, I1, r, z, q⟩
  exact ⟨by rw [← r.length]; exact z, ⟨.ref s1.heap.objs.size, _, laidT I1 r z, rfl, q _ _ (I1.hok.fresh (Nat.le_refl _)) rfl⟩⟩
/-- tuple(e) -/
theorem call_tupleF : CallR X (.type "tuple") (fun xs H Q => ∃ p ys, xs = [.ref p] ∧ ((SqL X.K H p ys ∧ ∀ (l : Addr) (o : Obj), H l = none → o.dict = none → Q (.ref l) (upd H l (.frz o (.tup ys)))) ∨ (SqT X.K H p ys ∧ Q (.ref p) H))) := by
  intro pins s σ H xs us Q I r h
  obtain ⟨p, ys, rfl, h⟩ := h
  obtain ⟨u, rfl, rx⟩ := vals1 r
  cases rx
  rcases h with ⟨hq, q⟩ | ⟨hq, q⟩
  · obtain ⟨its, r', pl, hz⟩ := I.list hq
    have many := r'.length
    refine call_tuple_list pl.isList (fun h' kp => ?_) (by simp only [List.size_toArray]; omega)
    have J : Inv X pins σ H { s with heap := h' } := I.kept (t' := s.toks) kp
    exact ⟨.ref h'.objs.size, _, laidT J r' hz, rfl, q _ _ (J.hok.fresh (Nat.le_refl _)) rfl⟩
  · obtain ⟨its, r', pl, hz⟩ := I.tuple hq
    exact call_tuple_same pl ⟨.ref p, H, I, rfl, q⟩
/-- t + u -/
def rCatF (K : PySem.W.Frag) : R2 := fun x y H Q => ∃ a b xs ys, x = .ref a ∧ y = .ref b ∧ SqT K H a xs ∧ SqT K H b ys ∧ xs.length + ys.length ≤ sizeLine ∧ (xs = [] → Q (.ref b) H) ∧ (xs ≠ [] → ys = [] → Q (.ref a) H) ∧
  (xs ≠ [] → ys ≠ [] → ∀ (p : Addr) (o : Obj), H p = none → o.dict = none → Q (.ref p) (upd H p (.frz o (.tup (xs ++ ys)))))
theorem op_catF : OpR X (binaryOp .Add) (rCatF X.K) := by
  intro pins s σ H x y v u Q I rx ry h
  obtain ⟨a, b, xs, ys, rfl, rfl, ha, hb, hz, q0, q1, q2⟩ := h
  cases rx
  cases ry
  obtain ⟨its, r1, p1, _⟩ := I.tuple ha
  obtain ⟨its2, r2, p2, _⟩ := I.tuple hb
  by_cases hx : xs = []
  · subst hx
    cases r1
    exact cat_tup0 p1 p2 ⟨.ref b, H, I, rfl, q0 rfl⟩
  · refine HT.cat_tup p1 p2 (fun z => hx (r1.nil_iff.mp z)) (fun z => ⟨.ref a, H, I, rfl, q1 hx (r2.nil_iff.mp z)⟩) (fun z => ?_) (by rw [← r1.length, ← r2.length]; exact hz)
    exact ⟨.ref s.heap.objs.size, _, laidT I (r1.append r2) (by rw [List.length_append]; exact hz), rfl, q2 hx (fun w => z (r2.nil_iff.mpr w)) _ _ (I.hok.fresh (Nat.le_refl _)) rfl⟩
/-- t[lo:hi] -/
def rSlF (K : PySem.W.Frag) : V → Option Int → Option Int → Hp → VK → Prop := fun x lo hi H Q => ∃ a xs, x = .ref a ∧ SqT K H a xs ∧ (HT.sIx xs.length 0 lo = 0 ∧ HT.sIx xs.length xs.length hi = xs.length → Q (.ref a) H) ∧
  (¬ (HT.sIx xs.length 0 lo = 0 ∧ HT.sIx xs.length xs.length hi = xs.length) → ∀ (p : Addr) (o : Obj), H p = none → o.dict = none → Q (.ref p) (upd H p (.frz o (.tup (cutV xs lo hi)))))
theorem sl_tupF : SlR X (rSlF X.K) := by
  intro pins s σ H x v vl vu lo hi sl Q I rx hs pl pu h
  obtain ⟨a, xs, rfl, hx, q1, q2⟩ := h
  cases rx
  obtain ⟨its, r, ht, hz⟩ := I.tuple hx
  have hlen : its.toArray.size = xs.length := by rw [List.size_toArray]; exact r.length.symm
  refine ⟨"tuple", _, PyProof.Rows.slot_tuple_getitem.lookup, ht.typeIs, ?_⟩
  by_cases hw : HT.sIx xs.length 0 lo = 0 ∧ HT.sIx xs.length xs.length hi = xs.length
  · exact getItem_tuple_whole ht hs pl pu (by rw [hlen]; exact hw) ⟨.ref a, H, I, rfl, q1 hw⟩
  · refine HT.getItem_tuple_cut ht hs pl pu (by rw [hlen]; exact hw) ?_ (by rw [hlen]; exact hz)
    rw [hlen]
    exact ⟨.ref s.heap.objs.size, _, laidT I ((r.drop (HT.sIx xs.length 0 lo)).take (HT.sIx xs.length xs.length hi - HT.sIx xs.length 0 lo)) (Nat.le_trans (cutV_length xs lo hi) hz), rfl, q2 hw _ _ (I.hok.fresh (Nat.le_refl _)) rfl⟩
end
end Tk

namespace Tk
open PySem PySem.Spec PyProof.Rows L2

/-! ## data -/
/-- data as Python has it, without addresses; ob: a thing that is only handed on -/
inductive D where
  | non
  | bl (b : Bool)
  | int (i : Int)
  | str (x : Str)
  | lst (xs : List D)
  | tup (xs : List D)
  | dic (kvs : List (Key × D))
  | ob (a : Addr)
  /-- an object of the class at C, with its fields, that stays so -/
  | obj (C : Addr) (ns : List Str) (ds : List D)
  /-- an object told by a sentence about the heap that leans on its own object alone, and on what data stands in it -/
  | ext (φ : Addr → List V → Heap → Prop) (ds : List D)
  /-- an exception of the class at C, with its fields, that stays so -/
  | exc (C : Addr) (ns : List Str) (ds : List D)

/-- an exception's object, of the class at C, its dict at dd -/
def xcH (C dd : Addr) (a : Addr) : HO := .ext fun h => ∃ (oe : Obj) (vs : Array Value), h.get? a = some oe ∧ oe.cls = .ref C ∧ oe.dict = some dd ∧ oe.data = .fields vs

mutual
/-- v stands for the data d in the abstract heap H, and leans on no address of Ex -/
inductive Dq (H : Hp) (Ex : Addr → Prop) : V → D → Prop
  | non : Dq H Ex .non .non
  | bl (b : Bool) : Dq H Ex (.bl b) (.bl b)
  | int (i : Int) : Dq H Ex (.int i) (.int i)
  | str (x : Str) : Dq H Ex (.str x) (.str x)
  | ob (a : Addr) : Dq H Ex (.ref a) (.ob a)
  | obj {a C dx : Addr} {ns : List Str} {vs : List V} {ds : List D} : H a = some (.ins C dx (ns.zip vs)) → ¬ Ex a → vs.length = ns.length → DqL H Ex vs ds → Dq H Ex (.ref a) (.obj C ns ds)
  | lst {a : Addr} {vs : List V} {ds : List D} : H a = some (.lst vs) → ¬ Ex a → DqL H Ex vs ds → Dq H Ex (.ref a) (.lst ds)
  | tup {a : Addr} {o : Obj} {vs : List V} {ds : List D} : H a = some (.frz o (.tup vs)) → o.dict = none → ¬ Ex a → DqL H Ex vs ds → Dq H Ex (.ref a) (.tup ds)
  | dic {a : Addr} {vs : List (Key × V)} {ds : List (Key × D)} : H a = some (.dK vs) → ¬ Ex a → DqK H Ex vs ds → Dq H Ex (.ref a) (.dic ds)
  | ext {a : Addr} {φ : Addr → List V → Heap → Prop} {vs : List V} {ds : List D} : H a = some (.ext (φ a vs)) → ¬ Ex a → DqL H Ex vs ds → Dq H Ex (.ref a) (.ext φ ds)
  | exc {a C dd : Addr} {ns : List Str} {vs : List V} {ds : List D} : H a = some (xcH C dd a) → ¬ Ex a → H dd = some (.xd (ns.zip vs)) → ¬ Ex dd → vs.length = ns.length → DqL H Ex vs ds → Dq H Ex (.ref a) (.exc C ns ds)
inductive DqL (H : Hp) (Ex : Addr → Prop) : List V → List D → Prop
  | nil : DqL H Ex [] []
  | cons {v : V} {vs : List V} {d : D} {ds : List D} : Dq H Ex v d → DqL H Ex vs ds → DqL H Ex (v :: vs) (d :: ds)
inductive DqK (H : Hp) (Ex : Addr → Prop) : List (Key × V) → List (Key × D) → Prop
  | nil : DqK H Ex [] []
  | cons {k : Key} {v : V} {vs : List (Key × V)} {d : D} {ds : List (Key × D)} : Dq H Ex v d → DqK H Ex vs ds → DqK H Ex ((k, v) :: vs) ((k, d) :: ds)
end

section
variable {H H' : Hp} {Ex Ex' : Addr → Prop}
mutual
/-- to another heap and another shutting-out -/
theorem Dq.to (k : ∀ a o, H a = some o → ¬ Ex a → H' a = some o ∧ ¬ Ex' a) : ∀ {v : V} {d : D}, Dq H Ex v d → Dq H' Ex' v d
  | _, _, .non => .non
  | _, _, .bl b => .bl b
  | _, _, .int i => .int i
  | _, _, .str x => .str x
  | _, _, .ob a => .ob a
  | _, _, .obj h n e l => .obj (k _ _ h n).1 (k _ _ h n).2 e (DqL.to k l)
  | _, _, .lst h n l => .lst (k _ _ h n).1 (k _ _ h n).2 (DqL.to k l)
  | _, _, .tup h e n l => .tup (k _ _ h n).1 e (k _ _ h n).2 (DqL.to k l)
  | _, _, .dic h n l => .dic (k _ _ h n).1 (k _ _ h n).2 (DqK.to k l)
  | _, _, .ext h n l => .ext (k _ _ h n).1 (k _ _ h n).2 (DqL.to k l)
  | _, _, .exc h n h2 n2 e l => .exc (k _ _ h n).1 (k _ _ h n).2 (k _ _ h2 n2).1 (k _ _ h2 n2).2 e (DqL.to k l)
theorem DqL.to (k : ∀ a o, H a = some o → ¬ Ex a → H' a = some o ∧ ¬ Ex' a) : ∀ {v : List V} {d : List D}, DqL H Ex v d → DqL H' Ex' v d
  | _, _, .nil => .nil
  | _, _, .cons h t => .cons (Dq.to k h) (DqL.to k t)
theorem DqK.to (k : ∀ a o, H a = some o → ¬ Ex a → H' a = some o ∧ ¬ Ex' a) : ∀ {v : List (Key × V)} {d : List (Key × D)}, DqK H Ex v d → DqK H' Ex' v d
  | _, _, .nil => .nil
  | _, _, .cons h t => .cons (Dq.to k h) (DqK.to k t)
end
end

section
variable {H H' : Hp} {Ex Ex' : Addr → Prop} {vs ws : List V} {ds es : List D}
theorem DqL.length : ∀ {vs : List V} {ds : List D}, DqL H Ex vs ds → vs.length = ds.length
  | _, _, .nil => rfl
  | _, _, .cons _ t => congrArg Nat.succ (DqL.length t)
theorem DqK.length : ∀ {vs : List (Key × V)} {ds : List (Key × D)}, DqK H Ex vs ds → vs.length = ds.length
  | _, _, .nil => rfl
  | _, _, .cons _ t => congrArg Nat.succ (DqK.length t)
theorem DqL.get : ∀ {vs : List V} {ds : List D} {i : Nat} {d : D}, DqL H Ex vs ds → ds[i]? = some d → ∃ v, vs[i]? = some v ∧ Dq H Ex v d
  | _, _, _, _, .nil, e => by simp at e
  | _, _, 0, _, .cons h _, e => by simp at e; subst e; exact ⟨_, rfl, h⟩
  | _, _, i + 1, d, .cons _ t, e => by
    obtain ⟨v, h1, h2⟩ := DqL.get (i := i) (d := d) t (by simpa using e)
    exact ⟨v, by simpa using h1, h2⟩
theorem DqL.getV : ∀ {vs : List V} {ds : List D} {i : Nat} {v : V}, DqL H Ex vs ds → vs[i]? = some v → ∃ d, ds[i]? = some d ∧ Dq H Ex v d
  | _, _, _, _, .nil, e => by simp at e
  | _, _, 0, _, .cons h _, e => by simp at e; subst e; exact ⟨_, rfl, h⟩
  | _, _, i + 1, d, .cons _ t, e => by
    obtain ⟨v, h1, h2⟩ := DqL.getV (i := i) (v := d) t (by simpa using e)
    exact ⟨v, by simpa using h1, h2⟩
theorem DqL.append : ∀ {vs ws : List V} {ds es : List D}, DqL H Ex vs ds → DqL H Ex ws es → DqL H Ex (vs ++ ws) (ds ++ es)
  | _, _, _, _, .nil, s => s
  | _, _, _, _, .cons r t, s => .cons r (DqL.append t s)
theorem DqL.take : ∀ {vs : List V} {ds : List D} (n : Nat), DqL H Ex vs ds → DqL H Ex (vs.take n) (ds.take n)
  | _, _, 0, _ => .nil
  | _, _, _ + 1, .nil => .nil
  | _, _, n + 1, .cons r t => .cons r (DqL.take n t)
theorem DqL.drop : ∀ {vs : List V} {ds : List D} (n : Nat), DqL H Ex vs ds → DqL H Ex (vs.drop n) (ds.drop n)
  | _, _, 0, r => r
  | _, _, _ + 1, .nil => .nil
  | _, _, n + 1, .cons _ t => DqL.drop n t
theorem DqL.set {v : V} {d : D} (r : Dq H Ex v d) : ∀ {vs : List V} {ds : List D} (i : Nat), DqL H Ex vs ds → DqL H Ex (vs.set i v) (ds.set i d)
  | _, _, _, .nil => .nil
  | _, _, 0, .cons _ t => .cons r t
  | _, _, i + 1, .cons q t => .cons q (DqL.set r i t)
theorem DqL.ints : ∀ {ns : List Int}, DqL H Ex (ns.map V.int) (ns.map D.int)
  | [] => .nil
  | n :: _ => .cons (.int n) DqL.ints
theorem DqL.isNil (h : DqL H Ex vs ds) : vs = [] ↔ ds = [] := by
  cases h with
  | nil => simp
  | cons _ _ => simp
theorem DqL.isEmpty (h : DqL H Ex vs ds) : vs.isEmpty = ds.isEmpty := by
  cases h <;> rfl
theorem DqL.cut (h : DqL H Ex vs ds) (a b : Nat) : DqL H Ex ((vs.drop a).take b) ((ds.drop a).take b) := (h.drop a).take b
end

/-! ## what a statement may do to the heap -/
structure Stp (Ex : Addr → Prop) (H : Hp) (Ex' : Addr → Prop) (H' : Hp) : Prop where
  out : ∀ a, Ex' a → Ex a ∨ H a = none
  kp : ∀ b o, H b = some o → ¬ Ex b → H' b = some o
  tr : ∀ a, H a ≠ none → H' a ≠ none
theorem Stp.refl {Ex : Addr → Prop} {H : Hp} : Stp Ex H Ex H := ⟨fun _ h => .inl h, fun _ _ h _ => h, fun _ h => h⟩
theorem Stp.trans {Ex Ex1 Ex2 : Addr → Prop} {H H1 H2 : Hp} (a : Stp Ex H Ex1 H1) (b : Stp Ex1 H1 Ex2 H2) : Stp Ex H Ex2 H2 where
  out := fun c h => by
    rcases b.out c h with q | q
    · exact a.out c q
    · cases e : H c with
      | none => exact .inr rfl
      | some o => exact absurd q (a.tr c (by rw [e]; exact fun z => nomatch z))
  kp := fun c o h n => b.kp c o (a.kp c o h n) fun m => by
    rcases a.out c m with q | q
    · exact n q
    · rw [q] at h; cases h
  tr := fun c h => b.tr c (a.tr c h)
/-- a def's entry -/
structure Bs where
  H0 : Hp
  Ex0 : Addr → Prop
/-! ## the world that deeds may change -/
structure Wo where
  Om : Type
  Mu : Addr → Prop
  /-- the world stands so, and leans on nothing of N -/
  ok : Om → (Addr → Prop) → Hp → Prop
  grow : ∀ {ω : Om} {N : Addr → Prop} {H H' : Hp}, ok ω N H → (∀ b o, H b = some o → ¬ N b → H' b = some o) → ok ω N H'
  less : ∀ {ω : Om} {N N' : Addr → Prop} {H : Hp}, ok ω N H → (∀ b, N' b → N b ∨ H b = none) → ok ω N' H
  trk : ∀ {ω : Om} {N : Addr → Prop} {H : Hp} {a : Addr}, ok ω N H → Mu a → H a ≠ none
  /-- what else holds of a run: where it began, what changed since -/
  bb : Bs → (Addr → Prop) → Hp → Prop := fun _ _ _ => True
  bbs : ∀ {B : Bs} {Ex Ex' : Addr → Prop} {H H' : Hp}, bb B Ex H → Stp Ex H Ex' H' → bb B Ex' H' := by intros; trivial
/-- a world without such a bond -/
class Free (W : Wo) : Prop where
  bb : ∀ B Ex H, W.bb B Ex H
/-- the world, where Ex is shut out -/
def Wo.at (W : Wo) (Ex : Addr → Prop) (ω : W.Om) (H : Hp) : Prop := W.ok ω (fun b => Ex b ∧ ¬ W.Mu b) H
theorem Wo.gr {W : Wo} {Ex : Addr → Prop} {ω : W.Om} {H H' : Hp} (h : W.at Ex ω H) (s : Same H H') : W.at Ex ω H' := W.grow h fun b o e _ => s b o e
theorem Wo.le {W : Wo} {Ex Ex' : Addr → Prop} {ω : W.Om} {H : Hp} (h : W.at Ex ω H) (s : ∀ b, Ex' b → Ex b ∨ H b = none) : W.at Ex' ω H :=
  W.less h fun b m => (s b m.1).elim (fun z => .inl ⟨z, m.2⟩) .inr
theorem Wo.tk {W : Wo} {Ex : Addr → Prop} {ω : W.Om} {H : Hp} {a : Addr} (h : W.at Ex ω H) (m : W.Mu a) : H a ≠ none := W.trk h m
/-- all but what may change is kept -/
def Kp (W : Wo) (H H' : Hp) : Prop := ∀ b o, H b = some o → ¬ W.Mu b → H' b = some o
theorem Kp.refl {W : Wo} {H : Hp} : Kp W H H := fun _ _ h _ => h
theorem Kp.trans {W : Wo} {H H1 H2 : Hp} (a : Kp W H H1) (b : Kp W H1 H2) : Kp W H H2 := fun c o h n => b c o (a c o h n) n
theorem Kp.same {W : Wo} {H H' : Hp} (s : Same H H') : Kp W H H' := fun b o h _ => s b o h
theorem same_upd {H : Hp} {p : Addr} {o : HO} (n : H p = none) : Same H (upd H p o) := fun b u e => by
  rw [upd_ne (ne_of_none e n)]
  exact e
theorem Stp.of {W : Wo} {Ex : Addr → Prop} {H H' : Hp} (k : Kp W H H') (m : ∀ a, W.Mu a → Ex a) (t : ∀ a, Ex a → H' a ≠ none) : Stp Ex H Ex H' where
  out := fun _ h => .inl h
  kp := fun b o e n => k b o e fun z => n (m b z)
  tr := fun a h => by
    by_cases x : Ex a
    · exact t a x
    · cases e : H a with
      | none => exact absurd e h
      | some o => rw [k a o e fun z => x (m a z)]; exact fun z => nomatch z
/-- the empty world -/
def W0 : Wo where
  Om := Unit
  Mu := fun _ => False
  ok := fun _ _ _ => True
  grow := fun _ _ => trivial
  less := fun _ _ => trivial
  trk := fun _ h => h.elim
instance : Free W0 := ⟨fun _ _ _ => trivial⟩

/-! ## slots -/
/-- what is known of a slot: data; a list, a dict of the def's own -/
inductive Sl where
  | d (d : D)
  | own (ds : List D)
  | odc (ds : List (Key × D))
abbrev Rho := List (Option Sl)
/-- the def's own object at a stands as the slot tells -/
def Own (H : Hp) (Ex : Addr → Prop) (a : Addr) : Sl → Prop
  | .own ds => Ex a ∧ ∃ vs, H a = some (.lst vs) ∧ DqL H Ex vs ds
  | .odc ds => Ex a ∧ ∃ vs, H a = some (.dK vs) ∧ DqK H Ex vs ds
  | .d _ => False
def SlR (H : Hp) (Ex : Addr → Prop) : Option V → Sl → Prop
  | some v, .d d => Dq H Ex v d
  | some v, .own ds => ∃ a, v = .ref a ∧ Own H Ex a (.own ds)
  | some v, .odc ds => ∃ a, v = .ref a ∧ Own H Ex a (.odc ds)
  | none, _ => False
def isOwn : Sl → Bool
  | .d _ => false
  | _ => true

/-- the state of a def's run, as data -/
structure Rep (W : Wo) (B : Bs) (Ex : Addr → Prop) (H : Hp) (σ : List (Option V)) (ρ : Rho) (ω : W.Om) : Prop where
  wo : W.at Ex ω H
  mu : ∀ a, W.Mu a → B.Ex0 a
  sub : ∀ a, B.Ex0 a → Ex a
  out : ∀ a, Ex a → B.Ex0 a ∨ B.H0 a = none
  tr0 : ∀ a, B.Ex0 a → B.H0 a ≠ none
  tr : ∀ a, Ex a → H a ≠ none
  kp : Kp W B.H0 H
  len : σ.length = ρ.length
  sl : ∀ (i : Nat) (z : Sl), ρ[i]? = some (some z) → ∃ o : Option V, σ[i]? = some o ∧ SlR H Ex o z
  dis : ∀ (i j : Nat) (z y : Sl) (a : Addr), ρ[i]? = some (some z) → ρ[j]? = some (some y) → isOwn z = true → isOwn y = true →
    σ[i]? = some (some (.ref a)) → σ[j]? = some (some (.ref a)) → i = j
  ofr : ∀ (i : Nat) (z : Sl) (a : Addr), ρ[i]? = some (some z) → isOwn z = true → σ[i]? = some (some (.ref a)) → B.H0 a = none
  bb : W.bb B Ex H

theorem Own.to {H H' : Hp} {Ex Ex' : Addr → Prop} {a : Addr} {z : Sl} (hx : ∀ b, Ex b → Ex' b) (ha : ∀ o, H a = some o → H' a = some o)
    (k : ∀ a o, H a = some o → ¬ Ex a → H' a = some o ∧ ¬ Ex' a) (h : Own H Ex a z) : Own H' Ex' a z := by
  cases z with
  | d _ => exact h
  | own ds =>
    obtain ⟨e, vs, h1, h2⟩ := h
    exact ⟨hx a e, vs, ha _ h1, h2.to k⟩
  | odc ds =>
    obtain ⟨e, vs, h1, h2⟩ := h
    exact ⟨hx a e, vs, ha _ h1, h2.to k⟩
theorem SlR.to {H H' : Hp} {Ex Ex' : Addr → Prop} {o : Option V} {z : Sl} (hx : ∀ b, Ex b → Ex' b) (ha : ∀ a u, o = some (.ref a) → H a = some u → isOwn z = true → H' a = some u)
    (k : ∀ a o, H a = some o → ¬ Ex a → H' a = some o ∧ ¬ Ex' a) (h : SlR H Ex o z) : SlR H' Ex' o z := by
  cases o with
  | none => exact h
  | some v =>
    cases z with
    | d d => exact Dq.to k h
    | own ds =>
      obtain ⟨a, e, h⟩ := h
      exact ⟨a, e, h.to hx (fun u q => ha a u (congrArg some e) q rfl) k⟩
    | odc ds =>
      obtain ⟨a, e, h⟩ := h
      exact ⟨a, e, h.to hx (fun u q => ha a u (congrArg some e) q rfl) k⟩

section
variable {W : Wo} {B : Bs} {Ex : Addr → Prop} {H H' : Hp} {σ : List (Option V)} {ρ : Rho} {ω ω' : W.Om}
theorem Rep.notMu (R : Rep W B Ex H σ ρ ω) {a : Addr} (h : B.H0 a = none) : ¬ W.Mu a := fun m => R.tr0 a (R.mu a m) h
theorem Rep.muEx (R : Rep W B Ex H σ ρ ω) {a : Addr} (h : W.Mu a) : Ex a := R.sub a (R.mu a h)
/-- the heap grows, the world may turn: all slots stay -/
theorem Rep.go (R : Rep W B Ex H σ ρ ω) (k : Kp W H H') (w : W.at Ex ω' H') : Rep W B Ex H' σ ρ ω' where
  wo := w
  mu := R.mu
  sub := R.sub
  out := R.out
  tr0 := R.tr0
  tr := fun a h => by
    by_cases m : W.Mu a
    · exact W.tk w m
    · cases q : H a with
      | none => exact absurd q (R.tr a h)
      | some o => rw [k a o q m]; exact fun z => nomatch z
  kp := R.kp.trans k
  len := R.len
  sl := fun i z e => by
    obtain ⟨o, h1, h2⟩ := R.sl i z e
    refine ⟨o, h1, h2.to (fun _ h => h) (fun a u e1 e2 e3 => k a u e2 ?_) fun a o h n => ⟨k a o h fun m => n (R.muEx m), n⟩⟩
    subst e1
    exact R.notMu (R.ofr i z a e e3 h1)
  dis := R.dis
  ofr := R.ofr
  bb := W.bbs R.bb (Stp.of k (fun _ m => R.sub _ (R.mu _ m)) fun a h => by
    by_cases m : W.Mu a
    · exact W.tk w m
    · cases q : H a with
      | none => exact absurd q (R.tr a h)
      | some o => rw [k a o q m]; exact fun z => nomatch z)
theorem Rep.grow (R : Rep W B Ex H σ ρ ω) (s : Same H H') : Rep W B Ex H' σ ρ ω := R.go (Kp.same s) (W.gr R.wo s)
theorem Rep.new (R : Rep W B Ex H σ ρ ω) {p : Addr} (h : H p = none) : ¬ Ex p := fun m => R.tr p m h
theorem Rep.keep (R : Rep W B Ex H σ ρ ω) (k : Kp W H H') {v : V} {d : D} (h : Dq H Ex v d) : Dq H' Ex v d :=
  h.to fun a o e n => ⟨k a o e fun m => n (R.muEx m), n⟩
theorem Rep.keepL (R : Rep W B Ex H σ ρ ω) (k : Kp W H H') {v : List V} {d : List D} (h : DqL H Ex v d) : DqL H' Ex v d :=
  h.to fun a o e n => ⟨k a o e fun m => n (R.muEx m), n⟩
theorem Rep.slot (R : Rep W B Ex H σ ρ ω) {i : Nat} {d : D} (e : ρ[i]? = some (some (.d d))) : ∃ v, σ[i]? = some (some v) ∧ Dq H Ex v d := by
  obtain ⟨o, h1, h2⟩ := R.sl i _ e
  cases o with
  | none => exact h2.elim
  | some v => exact ⟨v, h1, h2⟩
end
theorem Dq.same {H H' : Hp} {Ex : Addr → Prop} (s : Same H H') {v : V} {d : D} (h : Dq H Ex v d) : Dq H' Ex v d := h.to fun a o e n => ⟨s a o e, n⟩
theorem DqL.same {H H' : Hp} {Ex : Addr → Prop} (s : Same H H') {v : List V} {d : List D} (h : DqL H Ex v d) : DqL H' Ex v d := h.to fun a o e n => ⟨s a o e, n⟩
theorem DqK.same {H H' : Hp} {Ex : Addr → Prop} (s : Same H H') {v : List (Key × V)} {d : List (Key × D)} (h : DqK H Ex v d) : DqK H' Ex v d := h.to fun a o e n => ⟨s a o e, n⟩
/-- a value that may be read as data: its own object may be the def's own -/
inductive Bq (W : Wo) (H : Hp) (Ex : Addr → Prop) : V → D → Prop
  | of {v : V} {d : D} : Dq H Ex v d → Bq W H Ex v d
  | lst {a : Addr} {vs : List V} {ds : List D} : H a = some (.lst vs) → ¬ W.Mu a → DqL H Ex vs ds → Bq W H Ex (.ref a) (.lst ds)
  | dic {a : Addr} {vs : List (Key × V)} {ds : List (Key × D)} : H a = some (.dK vs) → ¬ W.Mu a → DqK H Ex vs ds → Bq W H Ex (.ref a) (.dic ds)
section
variable {W : Wo} {H : Hp} {Ex : Addr → Prop} {v : V}
theorem Bq.ofL {ds : List D} (h : Bq W H Ex v (.lst ds)) : ∃ a vs, v = .ref a ∧ H a = some (.lst vs) ∧ DqL H Ex vs ds := by
  cases h with
  | of q => cases q with | lst h1 h2 h3 => exact ⟨_, _, rfl, h1, h3⟩
  | lst h1 _ h2 => exact ⟨_, _, rfl, h1, h2⟩
theorem Bq.ofT {ds : List D} (h : Bq W H Ex v (.tup ds)) : ∃ a vs, v = .ref a ∧ TupF H a vs ∧ ¬ Ex a ∧ DqL H Ex vs ds := by
  cases h with
  | of q => cases q with | tup h1 e h2 h3 => exact ⟨_, _, rfl, ⟨_, h1, e⟩, h2, h3⟩
theorem TupF.sq {H : Hp} {a : Addr} {xs : List V} {K : PySem.W.Frag} (h : TupF H a xs) : SqT K H a xs := .inl (.inr ⟨_, h.choose_spec.1⟩)
theorem TupF.dq {H : Hp} {Ex : Addr → Prop} {a : Addr} {xs : List V} {ds : List D} (h : TupF H a xs) (n : ¬ Ex a) (l : DqL H Ex xs ds) : Dq H Ex (.ref a) (.tup ds) := .tup h.choose_spec.1 h.choose_spec.2 n l
theorem Bq.ofK {ds : List (Key × D)} (h : Bq W H Ex v (.dic ds)) : ∃ a vs, v = .ref a ∧ H a = some (.dK vs) ∧ DqK H Ex vs ds := by
  cases h with
  | of q => cases q with | dic h1 h2 h3 => exact ⟨_, _, rfl, h1, h3⟩
  | dic h1 _ h2 => exact ⟨_, _, rfl, h1, h2⟩
theorem Bq.ofX {φ : Addr → List V → Heap → Prop} {ds : List D} (h : Bq W H Ex v (.ext φ ds)) : ∃ a vs, v = .ref a ∧ H a = some (.ext (φ a vs)) ∧ ¬ Ex a ∧ DqL H Ex vs ds := by
  cases h with
  | of q => cases q with | ext h1 h2 h3 => exact ⟨_, _, rfl, h1, h2, h3⟩
theorem Bq.ofI {i : Int} (h : Bq W H Ex v (.int i)) : v = .int i := by
  cases h with | of q => cases q; rfl
theorem Bq.ofS {i : Str} (h : Bq W H Ex v (.str i)) : v = .str i := by
  cases h with | of q => cases q; rfl
theorem Bq.ofB {i : Bool} (h : Bq W H Ex v (.bl i)) : v = .bl i := by
  cases h with | of q => cases q; rfl
theorem Bq.ofN (h : Bq W H Ex v .non) : v = .non := by
  cases h with | of q => cases q; rfl
theorem Bq.ofJ {C : Addr} {ns : List Str} {ds : List D} (h : Bq W H Ex v (.obj C ns ds)) : ∃ a dx vs, v = .ref a ∧ H a = some (.ins C dx (ns.zip vs)) ∧ ¬ Ex a ∧ vs.length = ns.length ∧ DqL H Ex vs ds := by
  cases h with
  | of q => cases q with | obj h1 h2 h3 h4 => exact ⟨_, _, _, rfl, h1, h2, h3, h4⟩
theorem Bq.ofO {a : Addr} (h : Bq W H Ex v (.ob a)) : v = .ref a := by
  cases h with | of q => cases q; rfl
end

/-! ## judgements over data -/
abbrev RQ := Wo → Hp → (Addr → Prop) → V → D → Prop
/-- clean data -/
abbrev Cl : RQ := fun _ => Dq
/-- a relation that the world's turns leave -/
class Stab (R : RQ) : Prop where
  keep : ∀ {W : Wo} {H H' : Hp} {Ex : Addr → Prop} {v : V} {d : D}, (∀ a, W.Mu a → Ex a) → Kp W H H' → R W H Ex v d → R W H' Ex v d
  bq : ∀ {W : Wo} {H : Hp} {Ex : Addr → Prop} {v : V} {d : D}, R W H Ex v d → Bq W H Ex v d
instance : Stab Cl where
  keep := fun m k h => h.to fun a o e n => ⟨k a o e fun z => n (m a z), n⟩
  bq := .of
instance : Stab Bq where
  keep := fun m k h => by
    cases h with
    | of q => exact .of (q.to fun a o e n => ⟨k a o e fun z => n (m a z), n⟩)
    | lst h1 h2 h3 => exact .lst (k _ _ h1 h2) h2 (h3.to fun a o e n => ⟨k a o e fun z => n (m a z), n⟩)
    | dic h1 h2 h3 => exact .dic (k _ _ h1 h2) h2 (h3.to fun a o e n => ⟨k a o e fun z => n (m a z), n⟩)
  bq := fun h => h

/-- readings over data -/
abbrev DT (W : Wo) := Rho → W.Om → (D → W.Om → Prop) → Prop
abbrev DB (W : Wo) := Rho → W.Om → (Bool → W.Om → Prop) → Prop
abbrev DA (W : Wo) := Rho → W.Om → (List D → W.Om → Prop) → Prop
/-- behind an expression -/
def Post (R : RQ) (W : Wo) (Ex : Addr → Prop) (H : Hp) (Q : D → W.Om → Prop) : VK := fun v H' =>
  ∃ d ω', Kp W H H' ∧ W.at Ex ω' H' ∧ R W H' Ex v d ∧ Q d ω'
def PostB (W : Wo) (Ex : Addr → Prop) (H : Hp) (Q : Bool → W.Om → Prop) : Bool → Hp → Prop := fun b H' =>
  ∃ ω', Kp W H H' ∧ W.at Ex ω' H' ∧ Q b ω'
def PostL (W : Wo) (Ex : Addr → Prop) (H : Hp) (Q : List D → W.Om → Prop) : List V → Hp → Prop := fun vs H' =>
  ∃ ds ω', Kp W H H' ∧ W.at Ex ω' H' ∧ DqL H' Ex vs ds ∧ Q ds ω'
structure DX (R : RQ) (X : Cx) (W : Wo) (e : Expr) (t : DT W) : Prop where
  run : ∀ (pins : List (Addr × Obj)) (s : Shared) (σ : List (Option V)) (H : Hp) (B : Bs) (Ex : Addr → Prop) (ρ : Rho) (ω : W.Om) (Q : D → W.Om → Prop),
    Inv X pins σ H s → Rep W B Ex H σ ρ ω → t ρ ω Q → wpAny (model X.prog X.w) X.A (eval e X.env) (EP X pins σ (Post R W Ex H Q)) X.xe s
structure DP (X : Cx) (W : Wo) (e : Expr) (t : DB W) : Prop where
  run : ∀ (pins : List (Addr × Obj)) (s : Shared) (σ : List (Option V)) (H : Hp) (B : Bs) (Ex : Addr → Prop) (ρ : Rho) (ω : W.Om) (Q : Bool → W.Om → Prop),
    Inv X pins σ H s → Rep W B Ex H σ ρ ω → t ρ ω Q → wpAny (model X.prog X.w) X.A (isTrue e X.env (eval e X.env)) (TP X pins σ (PostB W Ex H Q)) X.xe s
structure DL (X : Cx) (W : Wo) (es : List Expr) (t : DA W) : Prop where
  run : ∀ (pos : Pos) (pins : List (Addr × Obj)) (s : Shared) (σ : List (Option V)) (H : Hp) (B : Bs) (Ex : Addr → Prop) (ρ : Rho) (ω : W.Om) (Q : List D → W.Om → Prop),
    Inv X pins σ H s → Rep W B Ex H σ ρ ω → t ρ ω Q → wpAny (model X.prog X.w) X.A (spliced (backTo pos (starEach es X.env))) (AP X pins σ (PostL W Ex H Q)) X.xe s
abbrev DE := DX Cl
/-- as readings of the heap -/
def tD (R : RQ) (W : Wo) (t : DT W) : TE := fun σ H Q => ∃ B Ex ρ ω Q0, Rep W B Ex H σ ρ ω ∧ t ρ ω Q0 ∧
  ∀ d ω' v H', Q0 d ω' → Kp W H H' → W.at Ex ω' H' → R W H' Ex v d → Q v H'
def tDB (W : Wo) (t : DB W) : TT := fun σ H Q => ∃ B Ex ρ ω Q0, Rep W B Ex H σ ρ ω ∧ t ρ ω Q0 ∧
  ∀ b ω' H', Q0 b ω' → Kp W H H' → W.at Ex ω' H' → Q b H'
def tDL (W : Wo) (t : DA W) : TA := fun σ H Q => ∃ B Ex ρ ω Q0, Rep W B Ex H σ ρ ω ∧ t ρ ω Q0 ∧
  ∀ ds ω' vs H', Q0 ds ω' → Kp W H H' → W.at Ex ω' H' → DqL H' Ex vs ds → Q vs H'
section
variable {R : RQ} {X : Cx} {W : Wo} {e : Expr} {es : List Expr} {t : DT W} {tb : DB W} {ta : DA W}
theorem DX.pe (h : DX R X W e t) : PE X e (tD R W t) := by
  refine ⟨fun pins s σ H Q I ⟨B, Ex, ρ, ω, Q0, rep, q, fin⟩ => ?_⟩
  exact thn (h.run pins s σ H B Ex ρ ω Q0 I rep q) fun u s' ⟨v, H', I', r, d, ω', k, w, z, q'⟩ => ⟨v, H', I', r, fin d ω' v H' q' k w z⟩
theorem DP.pt (h : DP X W e tb) : PT X e (tDB W tb) := by
  refine ⟨fun pins s σ H Q I ⟨B, Ex, ρ, ω, Q0, rep, q, fin⟩ => ?_⟩
  exact thn (h.run pins s σ H B Ex ρ ω Q0 I rep q) fun b s' ⟨H', I', ω', k, w, q'⟩ => ⟨H', I', fin b ω' H' q' k w⟩
theorem DL.pa (h : DL X W es ta) : PA X es (tDL W ta) := by
  refine ⟨fun pos pins s σ H Q I ⟨B, Ex, ρ, ω, Q0, rep, q, fin⟩ => ?_⟩
  exact thn (h.run pos pins s σ H B Ex ρ ω Q0 I rep q) fun us s' ⟨vs, H', I', r, ds, ω', k, w, z, q'⟩ => ⟨vs, H', I', r, fin ds ω' vs H' q' k w z⟩
theorem DX.of {te : TE} (h : PE X e te) (f : ∀ (B : Bs) (Ex : Addr → Prop) (ρ : Rho) (ω : W.Om) (σ : List (Option V)) (H : Hp) (Q : D → W.Om → Prop), Rep W B Ex H σ ρ ω → t ρ ω Q → te σ H (Post R W Ex H Q)) : DX R X W e t :=
  ⟨fun pins s σ H B Ex ρ ω Q I rep q => h.run pins s σ H _ I (f B Ex ρ ω σ H Q rep q)⟩
theorem DP.of {te : TT} (h : PT X e te) (f : ∀ (B : Bs) (Ex : Addr → Prop) (ρ : Rho) (ω : W.Om) (σ : List (Option V)) (H : Hp) (Q : Bool → W.Om → Prop), Rep W B Ex H σ ρ ω → tb ρ ω Q → te σ H (PostB W Ex H Q)) : DP X W e tb :=
  ⟨fun pins s σ H B Ex ρ ω Q I rep q => h.run pins s σ H _ I (f B Ex ρ ω σ H Q rep q)⟩
theorem DL.of {te : TA} (h : PA X es te) (f : ∀ (B : Bs) (Ex : Addr → Prop) (ρ : Rho) (ω : W.Om) (σ : List (Option V)) (H : Hp) (Q : List D → W.Om → Prop), Rep W B Ex H σ ρ ω → ta ρ ω Q → te σ H (PostL W Ex H Q)) : DL X W es ta :=
  ⟨fun pos pins s σ H B Ex ρ ω Q I rep q => h.run pos pins s σ H _ I (f B Ex ρ ω σ H Q rep q)⟩
/-- clean data may be read -/
theorem DX.bq [Stab R] (h : DX R X W e t) : DX Bq X W e t := DX.of h.pe fun B Ex ρ ω σ H Q rep q =>
  ⟨B, Ex, ρ, ω, Q, rep, q, fun d ω' v H' q' k w z => ⟨d, ω', k, w, Stab.bq z, q'⟩⟩
end

/-! ## names and constants -/
section
variable {R : RQ} {X : Cx} {W : Wo} {pos : Pos}
def dV {W : Wo} (i : Nat) : DT W := fun ρ ω Q => ∃ d, ρ[i]? = some (some (.d d)) ∧ Q d ω
/-- the def's own list or dict, read -/
def dO {W : Wo} (i : Nat) : DT W := fun ρ ω Q => (∃ ds, ρ[i]? = some (some (.own ds)) ∧ Q (.lst ds) ω) ∨ ∃ ds, ρ[i]? = some (some (.odc ds)) ∧ Q (.dic ds) ω
def dC {W : Wo} (d : D) : DT W := fun _ ω Q => Q d ω
theorem de_v (i : Nat) {x : Str} (hN : X.N[i]? = some x := by rfl) (hv : Vis X.env.scope x := by first | exact Or.inl rfl | exact Or.inr (Or.inl rfl) | exact Or.inr (Or.inr rfl))
    (hd : (x == ("__debug__" : Str)) = false := by decide) (hcd : (x == ("__classdict__" : Str)) = false := by decide) : DE X W (.Name x pos) (dV i) :=
  DX.of (pe_var (i := i) hN hv hd hcd) fun B Ex ρ ω σ H Q rep ⟨d, e, q⟩ => by
    obtain ⟨v, h1, h2⟩ := rep.slot e
    exact ⟨v, h1, d, ω, Kp.refl, rep.wo, h2, q⟩
theorem db_o (i : Nat) {x : Str} (hN : X.N[i]? = some x := by rfl) (hv : Vis X.env.scope x := by first | exact Or.inl rfl | exact Or.inr (Or.inl rfl) | exact Or.inr (Or.inr rfl))
    (hd : (x == ("__debug__" : Str)) = false := by decide) (hcd : (x == ("__classdict__" : Str)) = false := by decide) : DX Bq X W (.Name x pos) (dO i) :=
  DX.of (pe_var (i := i) hN hv hd hcd) fun B Ex ρ ω σ H Q rep h => by
    rcases h with ⟨ds, e, q⟩ | ⟨ds, e, q⟩
    · obtain ⟨o, h1, h2⟩ := rep.sl i _ e
      cases o with
      | none => exact h2.elim
      | some v =>
        obtain ⟨a, rfl, ex, vs, h3, h4⟩ := h2
        exact ⟨_, h1, _, ω, Kp.refl, rep.wo, .lst h3 (rep.notMu (rep.ofr i _ a e rfl h1)) h4, q⟩
    · obtain ⟨o, h1, h2⟩ := rep.sl i _ e
      cases o with
      | none => exact h2.elim
      | some v =>
        obtain ⟨a, rfl, ex, vs, h3, h4⟩ := h2
        exact ⟨_, h1, _, ω, Kp.refl, rep.wo, .dic h3 (rep.notMu (rep.ofr i _ a e rfl h1)) h4, q⟩
theorem de_int {i j} : DE X W (.Constant (.int i) j pos) (dC (.int i)) := DX.of pe_int fun B Ex ρ ω σ H Q rep q => ⟨_, ω, Kp.refl, rep.wo, .int i, q⟩
theorem de_bl {b j} : DE X W (.Constant (.bool b) j pos) (dC (.bl b)) := DX.of pe_bl fun B Ex ρ ω σ H Q rep q => ⟨_, ω, Kp.refl, rep.wo, .bl b, q⟩
theorem de_non {j} : DE X W (.Constant .none j pos) (dC .non) := DX.of pe_non fun B Ex ρ ω σ H Q rep q => ⟨_, ω, Kp.refl, rep.wo, .non, q⟩
theorem de_str {x j} : DE X W (.Constant (.str x) j pos) (dC (.str x)) := DX.of pe_str fun B Ex ρ ω σ H Q rep q => ⟨_, ω, Kp.refl, rep.wo, .str x, q⟩
/-- a module's constant that is an int, a text -/
theorem de_gI {x : Str} {i : Int} (hg : Gl X x) (hm : ∃ k, X.mg x = some (.int i k)) (hd : (x == ("__debug__" : Str)) = false := by decide) : DE X W (.Name x pos) (dC (.int i)) :=
  DX.of (pe_glob (v := .int i) hg hm.choose_spec ⟨_, rfl⟩ hd) fun B Ex ρ ω σ H Q rep q => ⟨_, ω, Kp.refl, rep.wo, .int i, q⟩
theorem de_gS {x : Str} {i : Str} (hg : Gl X x) (hm : ∃ k, X.mg x = some (.str i k)) (hd : (x == ("__debug__" : Str)) = false := by decide) : DE X W (.Name x pos) (dC (.str i)) :=
  DX.of (pe_glob (v := .str i) hg hm.choose_spec ⟨_, rfl⟩ hd) fun B Ex ρ ω σ H Q rep q => ⟨_, ω, Kp.refl, rep.wo, .str i, q⟩
end

/-! ## two operands -/
section
variable {R S : RQ} {X : Cx} {W : Wo} {a b c e : Expr} {es : List Expr} {pos : Pos} {ta tb tc : DT W} {tl : DA W}
theorem two [Stab R] [Stab S] {B : Bs} {Ex : Addr → Prop} {ρ : Rho} {ω : W.Om} {σ : List (Option V)} {H : Hp} {G : D → D → W.Om → Prop} {C : V → V → Hp → Prop} (rep : Rep W B Ex H σ ρ ω)
    (q : ta ρ ω fun x ω1 => tb ρ ω1 fun y ω2 => G x y ω2)
    (f : ∀ x y dx dy H2 ω2, Kp W H H2 → Rep W B Ex H2 σ ρ ω2 → R W H2 Ex x dx → S W H2 Ex y dy → G dx dy ω2 → C x y H2) :
    tD R W ta σ H fun x H1 => tD S W tb σ H1 fun y H2 => C x y H2 :=
  ⟨B, Ex, ρ, ω, _, rep, q, fun dx ω1 x H1 q1 k1 w1 z1 => ⟨B, Ex, ρ, ω1, _, rep.go k1 w1, q1, fun dy ω2 y H2 q2 k2 w2 z2 =>
    f x y dx dy H2 ω2 (k1.trans k2) ((rep.go k1 w1).go k2 w2) (Stab.keep (fun _ m => rep.muEx m) k2 z1) z2 q2⟩⟩
/-- an operation of two values as data -/
def Op2 (X : Cx) (W : Wo) (f : Value → Value → Sem Value) (g : D → D → Option D) : Prop :=
  ∃ r : R2, OpR X f r ∧ ∀ {H : Hp} {Ex : Addr → Prop} {x y : V} {dx dy z : D} {Q : VK}, (∀ a, Ex a → H a ≠ none) → Bq W H Ex x dx → Bq W H Ex y dy → g dx dy = some z →
    (∀ v H', Same H H' → Dq H' Ex v z → Q v H') → r x y H Q
def dOp {W : Wo} (g : D → D → Option D) (ta tb : DT W) : DT W := fun ρ ω Q => ta ρ ω fun x ω1 => tb ρ ω1 fun y ω2 => ∃ z, g x y = some z ∧ Q z ω2
theorem de_op [Stab R] [Stab S] {op : Operator} {g : D → D → Option D} (ho : Op2 X W (binaryOp op) g) (ha : DX R X W a ta) (hb : DX S X W b tb) : DE X W (.BinOp a op b pos) (dOp g ta tb) := by
  obtain ⟨r, h1, h2⟩ := ho
  refine DX.of (pe_op h1 ha.pe hb.pe) fun B Ex ρ ω σ H Q rep q => two rep q fun x y dx dy H2 ω2 k rp zx zy ⟨z, e, q2⟩ => ?_
  exact h2 rp.tr (Stab.bq zx) (Stab.bq zy) e fun v H' sm dz => ⟨z, ω2, k.trans (Kp.same sm), W.gr rp.wo sm, dz, q2⟩
theorem de_cmp [Stab R] [Stab S] {op : CmpOp} {g : D → D → Option D} (ho : Op2 X W (compareOp op) g) (ha : DX R X W a ta) (hb : DX S X W b tb) (hm : behindInMarks op b = false) : DE X W (.Compare a [op] [b] pos) (dOp g ta tb) := by
  obtain ⟨r, h1, h2⟩ := ho
  refine DX.of (pe_cmpR h1 ha.pe hb.pe hm) fun B Ex ρ ω σ H Q rep q => two rep q fun x y dx dy H2 ω2 k rp zx zy ⟨z, e, q2⟩ => ?_
  exact h2 rp.tr (Stab.bq zx) (Stab.bq zy) e fun v H' sm dz => ⟨z, ω2, k.trans (Kp.same sm), W.gr rp.wo sm, dz, q2⟩
/-- a comparison as a test -/
def dTst {W : Wo} (t : DT W) : DB W := fun ρ ω Q => t ρ ω fun d ω' => ∃ b, d = .bl b ∧ Q b ω'
theorem dp_cmp [Stab R] [Stab S] {op : CmpOp} {g : D → D → Option D} (ho : Op2 X W (compareOp op) g) (ha : DX R X W a ta) (hb : DX S X W b tb) (hm : behindInMarks op b = false) : DP X W (.Compare a [op] [b] pos) (dTst (dOp g ta tb)) := by
  obtain ⟨r, h1, h2⟩ := ho
  refine DP.of (pt_cmpR h1 ha.pe hb.pe hm) fun B Ex ρ ω σ H Q rep q => two rep q fun x y dx dy H2 ω2 k rp zx zy ⟨z, e, c, e2, q2⟩ => ?_
  subst e2
  refine h2 rp.tr (Stab.bq zx) (Stab.bq zy) e fun v H' sm dz => ?_
  cases dz
  exact ⟨c, rfl, ω2, k.trans (Kp.same sm), W.gr rp.wo sm, q2⟩
/-- an expression that gives a bool, as a test -/
theorem dp_val (h : DE X W e ta) (he : ∀ whole, isTrue e X.env whole = (do let v ← whole; standAt e.pos; holding [v] (truthy v)) := by intro _; rfl) : DP X W e (dTst ta) :=
  DP.of (pt_val h.pe he) fun B Ex ρ ω σ H Q rep q => ⟨B, Ex, ρ, ω, _, rep, q, fun d ω' v H' ⟨b, e1, q'⟩ k w z => by
    subst e1
    cases z
    exact ⟨b, rfl, ω', k, w, q'⟩⟩
end
/-! ## and, or, not, if-else -/
section
variable {X : Cx} {W : Wo} {a b c e : Expr} {rest : List Expr} {pos : Pos} {ta tb tc : DT W} {tA tB : DB W}
def dAnd {W : Wo} (t u : DB W) : DB W := fun ρ ω Q => t ρ ω fun c ω1 => if c = true then u ρ ω1 Q else Q false ω1
def dOr {W : Wo} (t u : DB W) : DB W := fun ρ ω Q => t ρ ω fun c ω1 => if c = true then Q true ω1 else u ρ ω1 Q
def dNot {W : Wo} (t : DB W) : DB W := fun ρ ω Q => t ρ ω fun c ω1 => Q (!c) ω1
/-- a test whatever its whole is -/
structure DW (X : Cx) (W : Wo) (e : Expr) (t : DB W) : Prop where
  run : ∀ (whole : Sem Value) (pins : List (Addr × Obj)) (s : Shared) (σ : List (Option V)) (H : Hp) (B : Bs) (Ex : Addr → Prop) (ρ : Rho) (ω : W.Om) (Q : Bool → W.Om → Prop),
    Inv X pins σ H s → Rep W B Ex H σ ρ ω → t ρ ω Q → wpAny (model X.prog X.w) X.A (isTrue e X.env whole) (TP X pins σ (PostB W Ex H Q)) X.xe s
theorem DW.dp (h : DW X W e tA) : DP X W e tA := ⟨h.run _⟩
theorem DW.pw (h : DW X W e tA) : PW X e (tDB W tA) := by
  refine ⟨fun wh pins s σ H Q I ⟨B, Ex, ρ, ω, Q0, rep, q, fin⟩ => ?_⟩
  exact thn (h.run wh pins s σ H B Ex ρ ω Q0 I rep q) fun b s' ⟨H', I', ω', k, w, q'⟩ => ⟨H', I', fin b ω' H' q' k w⟩
theorem DW.of {te : TT} (h : PW X e te) (f : ∀ (B : Bs) (Ex : Addr → Prop) (ρ : Rho) (ω : W.Om) (σ : List (Option V)) (H : Hp) (Q : Bool → W.Om → Prop), Rep W B Ex H σ ρ ω → tA ρ ω Q → te σ H (PostB W Ex H Q)) : DW X W e tA :=
  ⟨fun wh pins s σ H B Ex ρ ω Q I rep q => h.run wh pins s σ H _ I (f B Ex ρ ω σ H Q rep q)⟩
theorem dw_and1 (h : DP X W a tA) : DW X W (.BoolOp .And [a] pos) tA := DW.of (pw_and1 h.pt) fun B Ex ρ ω σ H Q rep q =>
  ⟨B, Ex, ρ, ω, Q, rep, q, fun b ω' H' q' k w => ⟨ω', k, w, q'⟩⟩
theorem dw_or1 (h : DP X W a tA) : DW X W (.BoolOp .Or [a] pos) tA := DW.of (pw_or1 h.pt) fun B Ex ρ ω σ H Q rep q =>
  ⟨B, Ex, ρ, ω, Q, rep, q, fun b ω' H' q' k w => ⟨ω', k, w, q'⟩⟩
theorem dw_and (h : DP X W a tA) (h2 : DW X W (.BoolOp .And (b :: rest) pos) tB) : DW X W (.BoolOp .And (a :: b :: rest) pos) (dAnd tA tB) :=
  DW.of (pw_and h.pt h2.pw) fun B Ex ρ ω σ H Q rep q => ⟨B, Ex, ρ, ω, _, rep, q, fun c ω1 H1 q1 k1 w1 => by
    cases c with
    | true => exact ⟨B, Ex, ρ, ω1, _, rep.go k1 w1, q1, fun d ω2 H2 q2 k2 w2 => ⟨ω2, k1.trans k2, w2, q2⟩⟩
    | false => exact ⟨ω1, k1, w1, q1⟩⟩
theorem dw_or (h : DP X W a tA) (h2 : DW X W (.BoolOp .Or (b :: rest) pos) tB) : DW X W (.BoolOp .Or (a :: b :: rest) pos) (dOr tA tB) :=
  DW.of (pw_or h.pt h2.pw) fun B Ex ρ ω σ H Q rep q => ⟨B, Ex, ρ, ω, _, rep, q, fun c ω1 H1 q1 k1 w1 => by
    cases c with
    | false => exact ⟨B, Ex, ρ, ω1, _, rep.go k1 w1, q1, fun d ω2 H2 q2 k2 w2 => ⟨ω2, k1.trans k2, w2, q2⟩⟩
    | true => exact ⟨ω1, k1, w1, q1⟩⟩
theorem dp_not (h : DP X W a tA) : DP X W (.UnaryOp .Not a pos) (dNot tA) := DP.of (pt_not h.pt) fun B Ex ρ ω σ H Q rep q =>
  ⟨B, Ex, ρ, ω, _, rep, q, fun b ω' H' q' k w => ⟨ω', k, w, q'⟩⟩
/-- as values -/
def dAndV {W : Wo} (ta tb : DT W) : DT W := fun ρ ω Q => ta ρ ω fun x ω1 => ∃ c, x = .bl c ∧ if c = true then tb ρ ω1 Q else Q (.bl false) ω1
def dOrV {W : Wo} (ta tb : DT W) : DT W := fun ρ ω Q => ta ρ ω fun x ω1 => ∃ c, x = .bl c ∧ if c = true then Q (.bl true) ω1 else tb ρ ω1 Q
def dNotV {W : Wo} (ta : DT W) : DT W := fun ρ ω Q => ta ρ ω fun x ω1 => ∃ c, x = .bl c ∧ Q (.bl (!c)) ω1
theorem de_one {op} (h : DE X W a ta) : DE X W (.BoolOp op [a] pos) ta := DX.of (pe_one h.pe) fun B Ex ρ ω σ H Q rep q =>
  ⟨B, Ex, ρ, ω, Q, rep, q, fun d ω' v H' q' k w z => ⟨d, ω', k, w, z, q'⟩⟩
theorem de_and (h : DE X W a ta) (h2 : DE X W (.BoolOp .And (b :: rest) pos) tb) : DE X W (.BoolOp .And (a :: b :: rest) pos) (dAndV ta tb) :=
  DX.of (pe_and h.pe h2.pe) fun B Ex ρ ω σ H Q rep q => ⟨B, Ex, ρ, ω, _, rep, q, fun d ω1 v H1 ⟨c, e, q1⟩ k1 w1 z => by
    subst e
    cases z
    refine ⟨c, rfl, ?_⟩
    cases c with
    | true => exact ⟨B, Ex, ρ, ω1, _, rep.go k1 w1, q1, fun d ω2 v H2 q2 k2 w2 z2 => ⟨d, ω2, k1.trans k2, w2, z2, q2⟩⟩
    | false => exact ⟨_, ω1, k1, w1, .bl false, q1⟩⟩
theorem de_or (h : DE X W a ta) (h2 : DE X W (.BoolOp .Or (b :: rest) pos) tb) : DE X W (.BoolOp .Or (a :: b :: rest) pos) (dOrV ta tb) :=
  DX.of (pe_or h.pe h2.pe) fun B Ex ρ ω σ H Q rep q => ⟨B, Ex, ρ, ω, _, rep, q, fun d ω1 v H1 ⟨c, e, q1⟩ k1 w1 z => by
    subst e
    cases z
    refine ⟨c, rfl, ?_⟩
    cases c with
    | false => exact ⟨B, Ex, ρ, ω1, _, rep.go k1 w1, q1, fun d ω2 v H2 q2 k2 w2 z2 => ⟨d, ω2, k1.trans k2, w2, z2, q2⟩⟩
    | true => exact ⟨_, ω1, k1, w1, .bl true, q1⟩⟩
theorem de_not (h : DE X W a ta) : DE X W (.UnaryOp .Not a pos) (dNotV ta) :=
  DX.of (pe_not h.pe) fun B Ex ρ ω σ H Q rep q => ⟨B, Ex, ρ, ω, _, rep, q, fun d ω1 v H1 ⟨c, e, q1⟩ k1 w1 z => by
    subst e
    cases z
    exact ⟨c, rfl, _, ω1, k1, w1, .bl _, q1⟩⟩
def dIf {W : Wo} (t : DB W) (ta tb : DT W) : DT W := fun ρ ω Q => t ρ ω fun c ω1 => if c = true then ta ρ ω1 Q else tb ρ ω1 Q
theorem de_if {R : RQ} (hc : DP X W c tA) (ha : DX R X W a ta) (hb : DX R X W b tb) : DX R X W (.IfExp c a b pos) (dIf tA ta tb) :=
  DX.of (pe_ifExp hc.pt ha.pe hb.pe) fun B Ex ρ ω σ H Q rep q => ⟨B, Ex, ρ, ω, _, rep, q, fun c ω1 H1 q1 k1 w1 => by
    cases c with
    | true => exact ⟨B, Ex, ρ, ω1, _, rep.go k1 w1, q1, fun d ω2 v H2 q2 k2 w2 z2 => ⟨d, ω2, k1.trans k2, w2, z2, q2⟩⟩
    | false => exact ⟨B, Ex, ρ, ω1, _, rep.go k1 w1, q1, fun d ω2 v H2 q2 k2 w2 z2 => ⟨d, ω2, k1.trans k2, w2, z2, q2⟩⟩⟩
/-- is None -/
def dIsN {W : Wo} (n : Bool) (ta : DT W) : DT W := fun ρ ω Q => ta ρ ω fun x ω1 => Q (.bl (match x with | .non => !n | _ => n)) ω1
theorem Dq.non_iff {H : Hp} {Ex : Addr → Prop} {v : V} {d : D} (h : Dq H Ex v d) (n : Bool) : (if decide (v = .non) = true then !n else n) = (match d with | .non => !n | _ => n) := by
  cases h <;> rfl
end
/-! ## argument lists, displays, calls -/
section
variable {X : Cx} {W : Wo} {e : Expr} {es : List Expr} {pos : Pos} {ta : DT W} {tl : DA W}
def dNil {W : Wo} : DA W := fun _ ω Q => Q [] ω
def dCons {W : Wo} (ta : DT W) (tl : DA W) : DA W := fun ρ ω Q => ta ρ ω fun x ω1 => tl ρ ω1 fun xs ω2 => Q (x :: xs) ω2
theorem dl_nil : DL X W [] dNil := DL.of pa_nil fun B Ex ρ ω σ H Q rep q => ⟨[], ω, Kp.refl, rep.wo, .nil, q⟩
theorem dl_cons (h : DE X W e ta) (h2 : DL X W es tl) (hs : starEach (e :: es) X.env = (false, eval e X.env) :: starEach es X.env := by rfl) : DL X W (e :: es) (dCons ta tl) :=
  DL.of (pa_cons h.pe h2.pa hs) fun B Ex ρ ω σ H Q rep q => ⟨B, Ex, ρ, ω, _, rep, q, fun d ω1 v H1 q1 k1 w1 z1 =>
    ⟨B, Ex, ρ, ω1, _, rep.go k1 w1, q1, fun ds ω2 vs H2 q2 k2 w2 z2 => ⟨d :: ds, ω2, k1.trans k2, w2, .cons ((rep.go k1 w1).keep k2 z1) z2, q2⟩⟩⟩
def dTup {W : Wo} (tl : DA W) : DT W := fun ρ ω Q => tl ρ ω fun ds ω1 => ds.length ≤ sizeLine ∧ Q (.tup ds) ω1
def dLst {W : Wo} (tl : DA W) : DT W := fun ρ ω Q => tl ρ ω fun ds ω1 => ds.length ≤ sizeLine ∧ Q (.lst ds) ω1
theorem de_tup {x1} (h : DL X W es tl) : DE X W (.Tuple es x1 pos) (dTup tl) := DX.of (pe_tupF h.pa) fun B Ex ρ ω σ H Q rep q =>
  ⟨B, Ex, ρ, ω, _, rep, q, fun ds ω1 vs H1 ⟨l, q1⟩ k1 w1 z1 => ⟨by rw [z1.length]; exact l, fun p o n od =>
    ⟨_, ω1, k1.trans (Kp.same (same_upd n)), W.gr w1 (same_upd n), .tup upd_same od ((rep.go k1 w1).new n) (z1.same (same_upd n)), q1⟩⟩⟩
theorem de_lst (h : DL X W es tl) : DE X W (.List es pos) (dLst tl) := DX.of (pe_lst h.pa) fun B Ex ρ ω σ H Q rep q =>
  ⟨B, Ex, ρ, ω, _, rep, q, fun ds ω1 vs H1 ⟨l, q1⟩ k1 w1 z1 => ⟨by rw [z1.length]; exact l, fun p n =>
    ⟨_, ω1, k1.trans (Kp.same (same_upd n)), W.gr w1 (same_upd n), .lst upd_same ((rep.go k1 w1).new n) (z1.same (same_upd n)), q1⟩⟩⟩
/-- a def's promise over data -/
abbrev Spd (W : Wo) := List D → W.Om → (D → W.Om → Prop) → Prop
def spOf (W : Wo) (S : Spd W) : Sp := fun vs H Q _ => ∃ Ex ω ds Q0, W.at Ex ω H ∧ (∀ a, W.Mu a → Ex a) ∧ (∀ a, Ex a → H a ≠ none) ∧ DqL H Ex vs ds ∧ S ds ω Q0 ∧
  ∀ d ω' v H', Q0 d ω' → Kp W H H' → W.at Ex ω' H' → Dq H' Ex v d → Q v H'
def dCall {W : Wo} (S : Spd W) (dvs : List D) (tl : DA W) : DT W := fun ρ ω Q => tl ρ ω fun ds ω1 => S (ds ++ dvs) ω1 Q
/-- the written defaults, ints and texts -/
inductive Flat : V → D → Prop
  | int (i : Int) : Flat (.int i) (.int i)
  | non : Flat .non .non
  | str (x : Str) : Flat (.str x) (.str x)
  | bl (b : Bool) : Flat (.bl b) (.bl b)
theorem Flat.dq {H : Hp} {Ex : Addr → Prop} {v : V} {d : D} (h : Flat v d) : Dq H Ex v d := by
  cases h with
  | int i => exact .int i
  | non => exact .non
  | str x => exact .str x
  | bl b => exact .bl b
theorem flats {H : Hp} {Ex : Addr → Prop} : ∀ {vs : List V} {ds : List D}, Paired Flat vs ds → DqL H Ex vs ds
  | _, _, .nil => .nil
  | _, _, .cons h t => .cons h.dq (flats t)
theorem de_cl {k : Nat} {f : Addr} {fd : FuncData} {ps : List Str} {S : Spd W} {dvs : List V} {dds : List D} {dus : List Value} {x : Str} {p : Pos} (F : FnG X.prog X.w X.K X.mg X.base CX0 k f fd ps (spOf W S)) (g : Gd X.A) (hr : Room k X.A)
    (hg : Gl X x) (hm : X.mg x = some (.ref f)) (hk : PySem.W.keepIn X.K (.ref f) = true) (hb : Binds X.K fd ps dus) (hd : Vals dvs dus) (hf : Paired Flat dvs dds) (ha : DL X W (e :: es) tl)
    (hdb : (x == ("__debug__" : Str)) = false := by decide) (he : starEach (e :: es) X.env = (false, eval e X.env) :: starEach es X.env := by rfl) (hpl : (backTo pos (starEach es X.env)).any (·.1) = false := by rfl) :
    DE X W (.Call (.Name x p) (e :: es) [] pos) (dCall S dds tl) :=
  DX.of (pe_cl F g hr hg hm hk hb hd pass0 ha.pa hdb he hpl) fun B Ex ρ ω σ H Q rep q => ⟨B, Ex, ρ, ω, _, rep, q, fun ds ω1 vs H1 q1 k1 w1 z1 =>
    ⟨Ex, ω1, ds ++ dds, Q, w1, fun _ m => rep.muEx m, (rep.go k1 w1).tr, z1.append (flats hf), q1, fun d ω2 v H2 q2 k2 w2 z2 => ⟨d, ω2, k1.trans k2, w2, z2, q2⟩⟩⟩
/-- a built-in by its values, as data -/
def Fn1 (X : Cx) (W : Wo) (f : Value) (g : List D → Option D) : Prop :=
  ∃ r : List V → Hp → VK → Prop, CallR X f r ∧ ∀ {H : Hp} {Ex : Addr → Prop} {vs : List V} {ds : List D} {z : D} {Q : VK}, (∀ a, Ex a → H a ≠ none) → Paired (Bq W H Ex) vs ds → g ds = some z →
    (∀ v H', Same H H' → Dq H' Ex v z → Q v H') → r vs H Q
def dFn {W : Wo} (g : List D → Option D) (tl : DA W) : DT W := fun ρ ω Q => tl ρ ω fun ds ω1 => ∃ z, g ds = some z ∧ Q z ω1
end
end Tk

namespace Tk
open PySem PySem.Spec PyProof.Rows L2

/-! ## data as the library's data -/
mutual
def D.py : D → PyData
  | .non => .none
  | .bl b => .bool b
  | .int i => .int i
  | .str x => .str x
  | .lst xs => .list (D.pyL xs)
  | .tup xs => .tuple (D.pyL xs)
  | .dic kvs => .dict (D.pyK kvs)
  | .ob _ => .none
  | .obj _ _ _ => .none
  | .ext _ _ => .none
  | .exc _ _ _ => .none
def D.pyL : List D → List PyData
  | [] => []
  | d :: ds => d.py :: D.pyL ds
def D.pyK : List (Key × D) → List (PyData × PyData)
  | [] => []
  | (k, d) :: ds => ((match k with | .inl i => PyData.int i | .inr x => PyData.str x), d.py) :: D.pyK ds
end
mutual
/-- no opaque thing within -/
def D.pl : D → Bool
  | .ob _ => false
  | .obj _ _ _ => false
  | .ext _ _ => false
  | .exc _ _ _ => false
  | .lst xs => D.plL xs
  | .tup xs => D.plL xs
  | .dic kvs => D.plK kvs
  | .non => true | .bl _ => true | .int _ => true | .str _ => true
def D.plL : List D → Bool
  | [] => true
  | d :: ds => d.pl && D.plL ds
def D.plK : List (Key × D) → Bool
  | [] => true
  | (_, d) :: ds => d.pl && D.plK ds
end
mutual
/-- no opaque thing, no dict within -/
def D.pn : D → Bool
  | .ob _ => false
  | .obj _ _ _ => false
  | .ext _ _ => false
  | .exc _ _ _ => false
  | .lst xs => D.pnL xs
  | .tup xs => D.pnL xs
  | .dic _ => false
  | .non => true | .bl _ => true | .int _ => true | .str _ => true
def D.pnL : List D → Bool
  | [] => true
  | d :: ds => d.pn && D.pnL ds
end

section
variable {X : Cx} {pins : List (Addr × Obj)} {σ : List (Option V)} {H : Hp} {Ex : Addr → Prop} {s : Shared} {W : Wo}
mutual
theorem Dq.dp {K : PySem.W.Frag} : ∀ {v : V} {d : D}, Dq H Ex v d → d.pn = true → Dp K H v d.py
  | _, _, .non, _ => .non
  | _, _, .bl b, _ => .bl b
  | _, _, .int i, _ => .int i
  | _, _, .str x, _ => .str x
  | _, _, .lst h _ l, e => .lst (SqL.of h) (DqL.dp l e)
  | _, _, .tup h x n l, e => .tup (TupF.sq ⟨_, h, x⟩) (DqL.dp l e)
theorem DqL.dp {K : PySem.W.Frag} : ∀ {v : List V} {d : List D}, DqL H Ex v d → D.pnL d = true → DpAll K H v (D.pyL d)
  | _, _, .nil, _ => .nil
  | _, _, .cons h t, e => by
    have e' := (Bool.and_eq_true_iff.mp e)
    exact .cons (Dq.dp h e'.1) (DqL.dp t e'.2)
end
theorem Bq.dp {K : PySem.W.Frag} {v : V} {d : D} (h : Bq W H Ex v d) (e : d.pn = true) : Dp K H v d.py := by
  cases h with
  | of q => exact q.dp e
  | lst h1 _ h2 => exact .lst (SqL.of h1) (h2.dp e)
  | dic h1 _ h2 => exact absurd e (by simp [D.pn])
/-- no tracked thing stands at sys.modules' place -/
abbrev BaseS (base : Heap) : Prop := ∃ o, base.get? sysModules = some o
theorem noSys (hb : BaseS X.base) (I : Inv X pins σ H s) : H sysModules = none := by
  obtain ⟨o, e⟩ := hb
  exact (I.bs _ _ e).2
mutual
theorem Dq.reads (hb : BaseS X.base) (I : Inv X pins σ H s) : ∀ (d : D) (v : V) (u : Value), Dq H Ex v d → d.pl = true → RelV v u → ∃ as, Reads s.heap u d.py as ∧ sysModules ∉ as
  | .non, _, _, .non, _, r => by cases r; exact ⟨_, Reads.none, by simp⟩
  | .bl b, _, _, .bl _, _, r => by cases r; exact ⟨_, Reads.bool b, by simp⟩
  | .int i, _, _, .int _, _, r => by obtain ⟨t, rfl⟩ := r; exact ⟨_, Reads.int i t, by simp⟩
  | .str x, _, _, .str _, _, r => by obtain ⟨t, rfl⟩ := r; exact ⟨_, Reads.str x t, by simp⟩
  | .lst ds, _, _, .lst h _ l, e, r => by
    cases r
    obtain ⟨its, rv, ⟨o, n, ho, hc, _, hd⟩, _⟩ := I.list (SqL.of (K := X.K) h)
    obtain ⟨as, hr, hn⟩ := DqL.reads hb I ds _ its l e rv
    refine ⟨_, Reads.list ho hc hd hr, fun z => ?_⟩
    rcases List.mem_cons.mp z with z | z
    · rw [← z, noSys hb I] at h; cases h
    · exact hn z
  | .tup ds, _, _, .tup h x _ l, e, r => by
    cases r
    obtain ⟨its, rv, ⟨o, ho, hc, n, hd⟩, _⟩ := I.tuple (TupF.sq (K := X.K) ⟨_, h, x⟩)
    obtain ⟨as, hr, hn⟩ := DqL.reads hb I ds _ its l e rv
    exact ⟨_, Reads.tuple ho hc hd hr, hn⟩
  | .dic ds, _, _, .dic h _ l, e, r => by
    cases r
    obtain ⟨_, hs, vs, rel, o, es, ep, ho, hx, hd, _, hp, _⟩ := dk_of I.hok h
    obtain ⟨as, bs, h1, h2, n1, n2⟩ := DqK.reads hb I ds _ vs es.toList l e rel hp
    refine ⟨_, Reads.dict ho hx.1 hd h1 h2, fun z => ?_⟩
    rcases List.mem_append.mp z with z | z
    · rcases List.mem_cons.mp z with z | z
      · rw [← z, noSys hb I] at h; cases h
      · exact n1 z
    · exact n2 z
theorem DqL.reads (hb : BaseS X.base) (I : Inv X pins σ H s) : ∀ (ds : List D) (vs : List V) (us : List Value), DqL H Ex vs ds → D.plL ds = true → Vals vs us → ∃ as, ReadsAll s.heap us (D.pyL ds) as ∧ sysModules ∉ as
  | [], _, _, .nil, _, r => by cases r; exact ⟨_, ReadsAll.nil, by simp⟩
  | d :: ds, _, _, .cons h t, e, r => by
    have e' := Bool.and_eq_true_iff.mp e
    cases r with
    | cons r1 r2 =>
      obtain ⟨as, q1, n1⟩ := Dq.reads hb I d _ _ h e'.1 r1
      obtain ⟨bs, q2, n2⟩ := DqL.reads hb I ds _ _ t e'.2 r2
      exact ⟨_, ReadsAll.cons q1 q2, fun z => (List.mem_append.mp z).elim n1 n2⟩
theorem DqK.reads (hb : BaseS X.base) (I : Inv X pins σ H s) : ∀ (ds : List (Key × D)) (vs : List (Key × V)) (us : List (Key × Value)) (es : List DictEntry), DqK H Ex vs ds → D.plK ds = true → KV vs us → Pairs (mixKind X.prog X.w) es us →
    ∃ as bs, ReadsAll s.heap (es.map (·.key)) ((D.pyK ds).map (·.1)) as ∧ ReadsAll s.heap (es.map (·.val)) ((D.pyK ds).map (·.2)) bs ∧ sysModules ∉ as ∧ sysModules ∉ bs
  | [], _, _, _, .nil, _, r, p => by cases r; cases p; exact ⟨_, _, ReadsAll.nil, ReadsAll.nil, by simp, by simp⟩
  | (k, d) :: ds, _, _, _, .cons h t, e, r, p => by
    have e' := Bool.and_eq_true_iff.mp e
    cases r with
    | cons r1 r2 =>
      cases p with
      | cons p1 p2 p3 =>
        obtain ⟨ek, r1⟩ := r1
        obtain ⟨as, q1, n1⟩ := Dq.reads hb I d _ _ h e'.1 r1
        obtain ⟨bs, cs, q2, q3, n2, n3⟩ := DqK.reads hb I ds _ _ _ t e'.2 r2 p3
        have hk : ∀ kk u, keyIs kk u = true → ∃ as, Reads s.heap u (match kk with | .inl i => PyData.int i | .inr x => PyData.str x) as ∧ sysModules ∉ as := fun kk u hu => by
          rcases keyIs_shape hu with ⟨i, t, rfl, rfl⟩ | ⟨x, t, rfl, rfl⟩
          · exact ⟨_, Reads.int i t, by simp⟩
          · exact ⟨_, Reads.str x t, by simp⟩
        obtain ⟨ks, qk, nk⟩ := hk k _ (by rw [← mixKind_is X.prog X.w]; rw [show k = _ from ek]; exact p1)
        refine ⟨ks ++ bs, as ++ cs, ReadsAll.cons qk q2, ReadsAll.cons (by rw [← p2] at q1; exact q1) q3, fun z => (List.mem_append.mp z).elim nk n2, fun z => (List.mem_append.mp z).elim n1 n3⟩
end
theorem Bq.reads (hb : BaseS X.base) (I : Inv X pins σ H s) {d : D} {v : V} {u : Value} (h : Bq W H Ex v d) (e : d.pl = true) (r : RelV v u) : ∃ as, Reads s.heap u d.py as ∧ sysModules ∉ as := by
  cases h with
  | of q => exact Dq.reads hb I _ _ _ q e r
  | lst h1 h2 h3 => exact Dq.reads (Ex := fun z => Ex z ∧ z ≠ _) hb I _ _ _ (.lst h1 (fun z => z.2 rfl) (h3.to fun a o e n => ⟨e, fun z => n z.1⟩)) e r
  | dic h1 h2 h3 => exact Dq.reads (Ex := fun z => Ex z ∧ z ≠ _) hb I _ _ _ (.dic h1 (fun z => z.2 rfl) (h3.to fun a o e n => ⟨e, fun z => n z.1⟩)) e r
end

/-! ## operators -/
def addD : D → D → Option D
  | .int a, .int b => some (.int (a + b))
  | .str a, .str b => if a.length + b.length ≤ sizeLine then some (.str (a ++ b)) else none
  | .lst a, .lst b => if a.length + b.length ≤ sizeLine then some (.lst (a ++ b)) else none
  | .tup a, .tup b => if a.length + b.length ≤ sizeLine then some (.tup (a ++ b)) else none
  | _, _ => none
def subD : D → D → Option D
  | .int a, .int b => some (.int (a - b))
  | _, _ => none
def mulD : D → D → Option D
  | .int a, .int b => if (-(2 ^ 64) < a ∧ a < 2 ^ 64) ∨ (-(2 ^ 64) < b ∧ b < 2 ^ 64) then some (.int (a * b)) else none
  | _, _ => none
def divD : D → D → Option D
  | .int a, .int b => if 0 < b ∧ b < 1073741824 then some (.int (a / b)) else none
  | _, _ => none
def modD : D → D → Option D
  | .int a, .int b => if 0 < b then some (.int (a % b)) else none
  | _, _ => none
def powD : D → D → Option D
  | .int a, .int b => if 0 ≤ b ∧ b ≤ 1000000 ∧ a.natAbs < 2 ^ 64 then some (.int (a ^ b.toNat)) else none
  | _, _ => none
section
variable {X : Cx} {W : Wo}
theorem o_add : Op2 X W (binaryOp .Add) addD := by
  refine ⟨_, op_add.or (op_add_str.or (op_cat.or op_catF)), ?_⟩
  intro H Ex x y dx dy z Q tr hx hy e k
  unfold addD at e
  split at e
  · cases e; exact .inl ⟨_, _, hx.ofI, hy.ofI, k _ _ (Same.refl H) (.int _)⟩
  · split at e
    · cases e; exact .inr (.inl ⟨_, _, hx.ofS, hy.ofS, by assumption, k _ _ (Same.refl H) (.str _)⟩)
    · cases e
  · split at e
    · rename_i hz
      cases e
      obtain ⟨a, vs, rfl, h1, h2⟩ := hx.ofL
      obtain ⟨b, ws, rfl, g1, g2⟩ := hy.ofL
      refine .inr (.inr (.inl ⟨a, b, vs, ws, rfl, rfl, h1, g1, by rw [h2.length, g2.length]; exact hz, fun p n => k _ _ (same_upd n) ?_⟩))
      exact .lst upd_same (fun m => tr p m n) ((h2.append g2).same (same_upd n))
    · cases e
  · split at e
    · rename_i hz
      cases e
      obtain ⟨a, vs, rfl, h1, n1, h2⟩ := hx.ofT
      obtain ⟨b, ws, rfl, g1, n2, g2⟩ := hy.ofT
      refine .inr (.inr (.inr ⟨a, b, vs, ws, rfl, rfl, h1.sq, g1.sq, by rw [h2.length, g2.length]; exact hz, ?_⟩))
      refine ⟨fun q => k _ _ (Same.refl H) ?_, fun q q2 => k _ _ (Same.refl H) ?_, fun q q2 p o n od => k _ _ (same_upd n) ?_⟩
      · subst q
        cases h2
        exact g1.dq n2 g2
      · subst q2
        cases g2
        rw [List.append_nil]
        exact h1.dq n1 h2
      · exact .tup upd_same od (fun m => tr p m n) ((h2.append g2).same (same_upd n))
    · cases e
  · cases e
theorem o_sub : Op2 X W (binaryOp .Sub) subD := by
  refine ⟨_, op_sub, ?_⟩
  intro H Ex x y dx dy z Q tr hx hy e k
  unfold subD at e
  split at e
  · cases e; exact ⟨_, _, hx.ofI, hy.ofI, k _ _ (Same.refl H) (.int _)⟩
  · cases e
theorem o_mul : Op2 X W (binaryOp .Mult) mulD := by
  refine ⟨_, op_mul, ?_⟩
  intro H Ex x y dx dy z Q tr hx hy e k
  unfold mulD at e
  split at e
  · split at e
    · cases e; exact ⟨_, _, hx.ofI, hy.ofI, by assumption, k _ _ (Same.refl H) (.int _)⟩
    · cases e
  · cases e
theorem o_div : Op2 X W (binaryOp .FloorDiv) divD := by
  refine ⟨_, op_fdiv, ?_⟩
  intro H Ex x y dx dy z Q tr hx hy e k
  unfold divD at e
  split at e
  · split at e
    · cases e; exact ⟨_, _, hx.ofI, hy.ofI, by assumption, k _ _ (Same.refl H) (.int _)⟩
    · cases e
  · cases e
theorem o_mod : Op2 X W (binaryOp .Mod) modD := by
  refine ⟨_, op_mod, ?_⟩
  intro H Ex x y dx dy z Q tr hx hy e k
  unfold modD at e
  split at e
  · split at e
    · cases e; exact ⟨_, _, hx.ofI, hy.ofI, by assumption, k _ _ (Same.refl H) (.int _)⟩
    · cases e
  · cases e
theorem o_pow : Op2 X W (binaryOp .Pow) powD := by
  refine ⟨_, op_pow, ?_⟩
  intro H Ex x y dx dy z Q tr hx hy e k
  unfold powD at e
  split at e
  · split at e
    · cases e; exact ⟨_, _, hx.ofI, hy.ofI, by assumption, k _ _ (Same.refl H) (.int _)⟩
    · cases e
  · cases e
end

/-! ## comparisons -/
def scD : D → D → Bool
  | .non, .non => true | .non, .int _ => true | .int _, .non => true | .non, .bl _ => true | .bl _, .non => true | .non, .str _ => true | .str _, .non => true
  | .int _, .int _ => true | .bl _, .bl _ => true | .str _, .str _ => true
  | .int _, .str _ => true | .str _, .int _ => true | .bl _, .str _ => true | .str _, .bl _ => true
  | _, _ => false
/-- == as data -/
def eqv (x y : D) : Bool := PyData.eqv x.py y.py
def shp (x : D) : Bool := x.pn && SeqAt.shaped x.py
def eqD (x y : D) : Option D := if (scD x y || (shp x && shp y)) = true then some (.bl (eqv x y)) else none
def neD (x y : D) : Option D := if (scD x y || (shp x && shp y)) = true then some (.bl (!eqv x y)) else none
section
variable {X : Cx} {W : Wo}
theorem sc_ok {H : Hp} {Ex : Addr → Prop} {x y : V} {dx dy : D} (hx : Bq W H Ex x dx) (hy : Bq W H Ex y dy) (h : scD dx dy = true) : scal x y = true ∧ decide (x = y) = eqv dx dy := by
  cases dx <;> cases dy <;> first | exact Bool.noConfusion h | skip
  all_goals first
    | (have e1 := hx.ofN; have e2 := hy.ofN; subst e1; subst e2; exact ⟨rfl, rfl⟩)
    | (have e1 := hx.ofN; have e2 := hy.ofI; subst e1; subst e2; exact ⟨rfl, rfl⟩)
    | (have e1 := hx.ofN; have e2 := hy.ofB; subst e1; subst e2; exact ⟨rfl, rfl⟩)
    | (have e1 := hx.ofN; have e2 := hy.ofS; subst e1; subst e2; exact ⟨rfl, rfl⟩)
    | (have e1 := hx.ofI; have e2 := hy.ofN; subst e1; subst e2; exact ⟨rfl, rfl⟩)
    | (have e1 := hx.ofB; have e2 := hy.ofN; subst e1; subst e2; exact ⟨rfl, rfl⟩)
    | (have e1 := hx.ofS; have e2 := hy.ofN; subst e1; subst e2; exact ⟨rfl, rfl⟩)
    | (have e1 := hx.ofI; have e2 := hy.ofI; subst e1; subst e2; exact ⟨rfl, dec_int⟩)
    | (have e1 := hx.ofB; have e2 := hy.ofB; subst e1; subst e2; exact ⟨rfl, dec_bl⟩)
    | (have e1 := hx.ofS; have e2 := hy.ofS; subst e1; subst e2; exact ⟨rfl, dec_str⟩)
    | (have e1 := hx.ofI; have e2 := hy.ofS; subst e1; subst e2; exact ⟨rfl, rfl⟩)
    | (have e1 := hx.ofS; have e2 := hy.ofI; subst e1; subst e2; exact ⟨rfl, rfl⟩)
    | (have e1 := hx.ofB; have e2 := hy.ofS; subst e1; subst e2; exact ⟨rfl, rfl⟩)
    | (have e1 := hx.ofS; have e2 := hy.ofB; subst e1; subst e2; exact ⟨rfl, rfl⟩)
theorem o_eq (hu : X.A.units + 64 < cLine) : Op2 X W (compareOp .Eq) eqD := by
  refine ⟨_, op_eq.or (op_eqD hu), ?_⟩
  intro H Ex x y dx dy z Q tr hx hy e k
  unfold eqD at e
  split at e
  · rename_i h
    cases e
    cases hs : scD dx dy with
    | true =>
      obtain ⟨h1, h2⟩ := sc_ok hx hy hs
      exact .inl ⟨h1, by rw [h2]; exact k _ _ (Same.refl H) (.bl _)⟩
    | false =>
      rw [hs, Bool.false_or] at h
      have h' := Bool.and_eq_true_iff.mp h
      have a1 := Bool.and_eq_true_iff.mp (show (dx.pn && SeqAt.shaped dx.py) = true from h'.1)
      have a2 := Bool.and_eq_true_iff.mp (show (dy.pn && SeqAt.shaped dy.py) = true from h'.2)
      exact .inr ⟨_, _, hx.dp a1.1, hy.dp a2.1, a1.2, a2.2, k _ _ (Same.refl H) (.bl _)⟩
  · cases e
theorem o_ne (hu : X.A.units + 64 < cLine) : Op2 X W (compareOp .NotEq) neD := by
  refine ⟨_, op_ne.or (op_neD hu), ?_⟩
  intro H Ex x y dx dy z Q tr hx hy e k
  unfold neD at e
  split at e
  · rename_i h
    cases e
    cases hs : scD dx dy with
    | true =>
      obtain ⟨h1, h2⟩ := sc_ok hx hy hs
      exact .inl ⟨h1, by rw [h2]; exact k _ _ (Same.refl H) (.bl _)⟩
    | false =>
      rw [hs, Bool.false_or] at h
      have h' := Bool.and_eq_true_iff.mp h
      have a1 := Bool.and_eq_true_iff.mp (show (dx.pn && SeqAt.shaped dx.py) = true from h'.1)
      have a2 := Bool.and_eq_true_iff.mp (show (dy.pn && SeqAt.shaped dy.py) = true from h'.2)
      exact .inr ⟨_, _, hx.dp a1.1, hy.dp a2.1, a1.2, a2.2, k _ _ (Same.refl H) (.bl _)⟩
  · cases e
end
def ltD : D → D → Option D
  | .int a, .int b => some (.bl (decide (a < b)))
  | .str a, .str b => some (.bl (decide (a.cps.toList < b.cps.toList)))
  | _, _ => none
def leD : D → D → Option D
  | .int a, .int b => some (.bl (decide (a ≤ b)))
  | _, _ => none
def gtD : D → D → Option D
  | .int a, .int b => some (.bl (decide (b < a)))
  | _, _ => none
def geD : D → D → Option D
  | .int a, .int b => some (.bl (decide (b ≤ a)))
  | _, _ => none
section
variable {X : Cx} {W : Wo}
theorem o_lt : Op2 X W (compareOp .Lt) ltD := by
  refine ⟨_, op_lt.or op_lt_str, ?_⟩
  intro H Ex x y dx dy z Q tr hx hy e k
  unfold ltD at e
  split at e
  · cases e; exact .inl ⟨_, _, hx.ofI, hy.ofI, k _ _ (Same.refl H) (.bl _)⟩
  · cases e; exact .inr ⟨_, _, hx.ofS, hy.ofS, k _ _ (Same.refl H) (.bl _)⟩
  · cases e
theorem o_le : Op2 X W (compareOp .LtE) leD := by
  refine ⟨_, op_le, ?_⟩
  intro H Ex x y dx dy z Q tr hx hy e k
  unfold leD at e
  split at e
  · cases e; exact ⟨_, _, hx.ofI, hy.ofI, k _ _ (Same.refl H) (.bl _)⟩
  · cases e
theorem o_gt : Op2 X W (compareOp .Gt) gtD := by
  refine ⟨_, op_gt, ?_⟩
  intro H Ex x y dx dy z Q tr hx hy e k
  unfold gtD at e
  split at e
  · cases e; exact ⟨_, _, hx.ofI, hy.ofI, k _ _ (Same.refl H) (.bl _)⟩
  · cases e
theorem o_ge : Op2 X W (compareOp .GtE) geD := by
  refine ⟨_, op_ge, ?_⟩
  intro H Ex x y dx dy z Q tr hx hy e k
  unfold geD at e
  split at e
  · cases e; exact ⟨_, _, hx.ofI, hy.ofI, k _ _ (Same.refl H) (.bl _)⟩
  · cases e
end
/-- a flat thing -/
def flt : D → Bool
  | .non => true | .bl _ => true | .int _ => true | .str _ => true
  | _ => false
/-- one sign in a text -/
def sign1 (x : Str) : Option Nat := match x.cps.toList with | [c] => some c | _ => none
def inD (neg : Bool) : D → D → Option D
  | .str x, .str y => (sign1 x).map fun c => .bl (if neg then !decide (c ∈ y.cps.toList) else decide (c ∈ y.cps.toList))
  | x, .lst ys => if (flt x && ys.all flt) = true then some (.bl (if neg then !ys.any (fun y => eqv y x) else ys.any (fun y => eqv y x))) else none
  | x, .tup ys => if (flt x && ys.all flt) = true then some (.bl (if neg then !ys.any (fun y => eqv y x) else ys.any (fun y => eqv y x))) else none
  | _, _ => none
theorem sign1_some {x : Str} {c : Nat} (h : sign1 x = some c) : x = ⟨#[c]⟩ := by
  obtain ⟨⟨l⟩⟩ := x
  unfold sign1 at h
  match l, h with
  | [c], h => cases h; rfl
section
variable {X : Cx} {W : Wo} {H : Hp} {Ex : Addr → Prop}
theorem flt_ok {x : V} {d : D} (h : Bq W H Ex x d) (f : flt d = true) : flatV x = true := by
  cases d <;> first | exact Bool.noConfusion f | skip
  · rw [h.ofN]; rfl
  · rw [h.ofB]; rfl
  · rw [h.ofI]; rfl
  · rw [h.ofS]; rfl
theorem eqV_ok {x y : V} {d e : D} (h : Bq W H Ex x d) (h' : Bq W H Ex y e) (f : flt d = true) (f' : flt e = true) : eqV x y = eqv d e := by
  cases d <;> first | exact Bool.noConfusion f | skip
  all_goals cases e <;> first | exact Bool.noConfusion f' | skip
  all_goals first
    | (rw [h.ofN, h'.ofN]; rfl)
    | (rw [h.ofN, h'.ofB]; rfl)
    | (rw [h.ofN, h'.ofI]; rfl)
    | (rw [h.ofN, h'.ofS]; rfl)
    | (rw [h.ofB, h'.ofN]; rfl)
    | (rw [h.ofB, h'.ofB]; rfl)
    | (rw [h.ofB, h'.ofI]; rfl)
    | (rw [h.ofB, h'.ofS]; rfl)
    | (rw [h.ofI, h'.ofN]; rfl)
    | (rw [h.ofI, h'.ofB]; rfl)
    | (rw [h.ofI, h'.ofI]; rfl)
    | (rw [h.ofI, h'.ofS]; rfl)
    | (rw [h.ofS, h'.ofN]; rfl)
    | (rw [h.ofS, h'.ofB]; rfl)
    | (rw [h.ofS, h'.ofI]; rfl)
    | (rw [h.ofS, h'.ofS]; rfl)
theorem inV_ok {x : V} {d : D} (h : Bq W H Ex x d) (f : flt d = true) : ∀ {vs : List V} {ds : List D}, DqL H Ex vs ds → ds.all flt = true → vs.all flatV = true ∧ inV x vs = ds.any fun y => eqv y d
  | _, _, .nil, _ => ⟨rfl, rfl⟩
  | _, _, .cons (v := v) (d := d') q t, e => by
    rw [List.all_cons] at e
    have e' := Bool.and_eq_true_iff.mp e
    obtain ⟨h1, h2⟩ := inV_ok h f t e'.2
    have h2' := h2
    unfold inV at h2'
    refine ⟨by rw [List.all_cons, flt_ok (W := W) (.of q) e'.1, h1]; rfl, ?_⟩
    unfold inV
    rw [List.any_cons, List.any_cons, eqV_ok (W := W) (.of q) h e'.1 f, h2']
theorem o_in : Op2 X W (compareOp .In) (inD false) := by
  refine ⟨_, op_in_sign.or op_in_seq, ?_⟩
  intro H Ex x y dx dy z Q tr hx hy e k
  unfold inD at e
  split at e
  · rename_i a b
    cases q : sign1 a with
    | none => rw [q] at e; cases e
    | some c =>
      rw [q] at e
      cases e
      have q' := sign1_some q
      subst q'
      exact .inl ⟨c, b, hx.ofS, hy.ofS, k _ _ (Same.refl H) (.bl _)⟩
  · split at e
    · rename_i h
      have h' := Bool.and_eq_true_iff.mp h
      cases e
      obtain ⟨a, vs, rfl, h1, h2⟩ := hy.ofL
      obtain ⟨f1, f2⟩ := inV_ok hx h'.1 h2 h'.2
      refine .inr ⟨a, vs, rfl, .inl (SqL.of h1), flt_ok hx h'.1, f1, ?_⟩
      rw [f2]
      exact k _ _ (Same.refl H) (.bl _)
    · cases e
  · split at e
    · rename_i h
      have h' := Bool.and_eq_true_iff.mp h
      cases e
      obtain ⟨a, vs, rfl, h1, _, h2⟩ := hy.ofT
      obtain ⟨f1, f2⟩ := inV_ok hx h'.1 h2 h'.2
      refine .inr ⟨a, vs, rfl, .inr h1.sq, flt_ok hx h'.1, f1, ?_⟩
      rw [f2]
      exact k _ _ (Same.refl H) (.bl _)
    · cases e
  · cases e
theorem o_notin : Op2 X W (compareOp .NotIn) (inD true) := by
  refine ⟨_, op_notIn_sign.or op_notIn_seq, ?_⟩
  intro H Ex x y dx dy z Q tr hx hy e k
  unfold inD at e
  split at e
  · rename_i a b
    cases q : sign1 a with
    | none => rw [q] at e; cases e
    | some c =>
      rw [q] at e
      cases e
      have q' := sign1_some q
      subst q'
      exact .inl ⟨c, b, hx.ofS, hy.ofS, k _ _ (Same.refl H) (.bl _)⟩
  · split at e
    · rename_i h
      have h' := Bool.and_eq_true_iff.mp h
      cases e
      obtain ⟨a, vs, rfl, h1, h2⟩ := hy.ofL
      obtain ⟨f1, f2⟩ := inV_ok hx h'.1 h2 h'.2
      refine .inr ⟨a, vs, rfl, .inl (SqL.of h1), flt_ok hx h'.1, f1, ?_⟩
      rw [f2]
      exact k _ _ (Same.refl H) (.bl _)
    · cases e
  · split at e
    · rename_i h
      have h' := Bool.and_eq_true_iff.mp h
      cases e
      obtain ⟨a, vs, rfl, h1, _, h2⟩ := hy.ofT
      obtain ⟨f1, f2⟩ := inV_ok hx h'.1 h2 h'.2
      refine .inr ⟨a, vs, rfl, .inr h1.sq, flt_ok hx h'.1, f1, ?_⟩
      rw [f2]
      exact k _ _ (Same.refl H) (.bl _)
    · cases e
  · cases e
end
end Tk

namespace Tk
open PySem PySem.Spec PyProof.Rows L2

/-! ## more expressions -/
section
variable {R S : RQ} {X : Cx} {W : Wo} {a b c e : Expr} {pos : Pos} {ta tb tc : DT W}
def dNeg {W : Wo} (ta : DT W) : DT W := fun ρ ω Q => ta ρ ω fun x ω1 => ∃ i, x = .int i ∧ Q (.int (-i)) ω1
theorem de_neg (h : DE X W a ta) : DE X W (.UnaryOp .USub a pos) (dNeg ta) := DX.of (pe_un un_neg h.pe) fun B Ex ρ ω σ H Q rep q =>
  ⟨B, Ex, ρ, ω, _, rep, q, fun d ω1 v H1 ⟨i, e, q1⟩ k1 w1 z => by
    subst e
    cases z
    exact ⟨i, rfl, _, ω1, k1, w1, .int _, q1⟩⟩
def isN : D → Bool
  | .non => true
  | _ => false
theorem Dq.isN {H : Hp} {Ex : Addr → Prop} {v : V} {d : D} (h : Dq H Ex v d) : decide (v = .non) = isN d := by
  cases h <;> rfl
def dIs {W : Wo} (ta : DT W) : DT W := fun ρ ω Q => ta ρ ω fun x ω1 => Q (.bl (isN x)) ω1
def dIsNot {W : Wo} (ta : DT W) : DT W := fun ρ ω Q => ta ρ ω fun x ω1 => Q (.bl (!isN x)) ω1
theorem de_is {j p'} (h : DE X W a ta) : DE X W (.Compare a [.Is] [.Constant .none j p'] pos) (dIs ta) := DX.of (pe_cmp (pc_isN h.pe)) fun B Ex ρ ω σ H Q rep q =>
  ⟨B, Ex, ρ, ω, _, rep, q, fun d ω1 v H1 q1 k1 w1 z => ⟨_, ω1, k1, w1, .bl _, by rw [Dq.isN z]; exact q1⟩⟩
theorem de_isnot {j p'} (h : DE X W a ta) : DE X W (.Compare a [.IsNot] [.Constant .none j p'] pos) (dIsNot ta) := DX.of (pe_cmp (pc_notN h.pe)) fun B Ex ρ ω σ H Q rep q =>
  ⟨B, Ex, ρ, ω, _, rep, q, fun d ω1 v H1 q1 k1 w1 z => ⟨_, ω1, k1, w1, .bl _, by rw [Dq.isN z]; exact q1⟩⟩
theorem dp_is {j p'} (h : DE X W a ta) : DP X W (.Compare a [.Is] [.Constant .none j p'] pos) (dTst (dIs ta)) := DP.of (pt_cmp (pc_isN h.pe)) fun B Ex ρ ω σ H Q rep q =>
  ⟨B, Ex, ρ, ω, _, rep, q, fun d ω1 v H1 ⟨b, e, q1⟩ k1 w1 z => ⟨b, by rw [Dq.isN z]; exact (D.bl.inj e) ▸ rfl, ω1, k1, w1, q1⟩⟩
theorem dp_isnot {j p'} (h : DE X W a ta) : DP X W (.Compare a [.IsNot] [.Constant .none j p'] pos) (dTst (dIsNot ta)) := DP.of (pt_cmp (pc_notN h.pe)) fun B Ex ρ ω σ H Q rep q =>
  ⟨B, Ex, ρ, ω, _, rep, q, fun d ω1 v H1 ⟨b, e, q1⟩ k1 w1 z => ⟨b, by rw [Dq.isN z]; exact (D.bl.inj e) ▸ rfl, ω1, k1, w1, q1⟩⟩
/-- a op b op' c -/
def dCh {W : Wo} (g g' : D → D → Option D) (ta tb tc : DT W) : DT W := fun ρ ω Q => ta ρ ω fun x ω1 => tb ρ ω1 fun y ω2 => ∃ k, g x y = some (.bl k) ∧
  if k = true then tc ρ ω2 fun z ω3 => ∃ w, g' y z = some w ∧ Q w ω3 else Q (.bl false) ω2
theorem de_ch [Stab R] [Stab S] {T : RQ} [Stab T] {op op' : CmpOp} {g g' : D → D → Option D} (ho : Op2 X W (compareOp op) g) (ho' : Op2 X W (compareOp op') g') (ha : DX R X W a ta) (hb : DX S X W b tb) (hc : DX T X W c tc)
    (hm : lastMarks [op, op'] [b, c] = false := by with_unfolding_all rfl) : DE X W (.Compare a [op, op'] [b, c] pos) (dCh g g' ta tb tc) := by
  obtain ⟨r, h1, h2⟩ := ho
  obtain ⟨r', h1', h2'⟩ := ho'
  refine DX.of (pe_chain h1 h1' ha.pe hb.pe hc.pe hm) fun B Ex ρ ω σ H Q rep q => two rep q fun x y dx dy H2 ω2 k rp zx zy ⟨c, e, q2⟩ => ?_
  refine h2 rp.tr (Stab.bq zx) (Stab.bq zy) e fun v H3 sm dz => ?_
  cases dz
  refine ⟨c, rfl, ?_⟩
  cases c with
  | false => exact ⟨_, ω2, k.trans (Kp.same sm), W.gr rp.wo sm, .bl false, q2⟩
  | true =>
    have r3 := rp.grow sm
    exact ⟨B, Ex, ρ, ω2, _, r3, q2, fun d ω4 v H4 ⟨w, e4, q4⟩ k4 w4 z4 =>
      h2' (r3.go k4 w4).tr (Stab.bq (Stab.keep (fun _ m => rp.muEx m) ((Kp.same sm).trans k4) zy)) (Stab.bq z4) e4 fun v H5 sm5 dz5 => ⟨w, ω4, k.trans ((Kp.same sm).trans (k4.trans (Kp.same sm5))), W.gr w4 sm5, dz5, q4⟩⟩
theorem dp_ch [Stab R] [Stab S] {T : RQ} [Stab T] {op op' : CmpOp} {g g' : D → D → Option D} (ho : Op2 X W (compareOp op) g) (ho' : Op2 X W (compareOp op') g') (ha : DX R X W a ta) (hb : DX S X W b tb) (hc : DX T X W c tc)
    (hm : lastMarks [op, op'] [b, c] = false := by with_unfolding_all rfl) : DP X W (.Compare a [op, op'] [b, c] pos) (dTst (dCh g g' ta tb tc)) := by
  obtain ⟨r, h1, h2⟩ := ho
  obtain ⟨r', h1', h2'⟩ := ho'
  refine DP.of (pt_chain h1 h1' ha.pe hb.pe hc.pe hm) fun B Ex ρ ω σ H Q rep q => two rep q fun x y dx dy H2 ω2 k rp zx zy ⟨c, e, q2⟩ => ?_
  refine h2 rp.tr (Stab.bq zx) (Stab.bq zy) e fun v H3 sm dz => ?_
  cases dz
  refine ⟨c, rfl, ?_⟩
  cases c with
  | false =>
    obtain ⟨b, e, q2⟩ := q2
    cases e
    exact ⟨false, rfl, ω2, k.trans (Kp.same sm), W.gr rp.wo sm, q2⟩
  | true =>
    have r3 := rp.grow sm
    exact ⟨B, Ex, ρ, ω2, _, r3, q2, fun d ω4 v H4 ⟨w, e4, b, eb, q4⟩ k4 w4 z4 =>
      h2' (r3.go k4 w4).tr (Stab.bq (Stab.keep (fun _ m => rp.muEx m) ((Kp.same sm).trans k4) zy)) (Stab.bq z4) e4 fun v H5 sm5 dz5 => by
        subst eb
        cases dz5
        exact ⟨b, rfl, ω4, k.trans ((Kp.same sm).trans (k4.trans (Kp.same sm5))), W.gr w4 sm5, q4⟩⟩
/-! ## subscripts -/
def ixD : D → D → Option D
  | .lst xs, .int i => atI xs i
  | .tup xs, .int i => atI xs i
  | .str z, .int i => if z.length ≤ sizeLine then (atI z.cps.toList i).map fun c => .str ⟨#[c]⟩ else none
  | _, _ => none
theorem DqL.atI {H : Hp} {Ex : Addr → Prop} {vs : List V} {ds : List D} {i : Int} {d : D} (h : DqL H Ex vs ds) (e : L2.atI ds i = some d) : ∃ v, L2.atI vs i = some v ∧ Dq H Ex v d := by
  unfold L2.atI at e ⊢
  rw [h.length]
  cases q : ixN ds.length i with
  | none => rw [q] at e; cases e
  | some j =>
    rw [q] at e
    exact h.get e
theorem ixS {z : Str} {i : Int} {d : D} (e : (if z.length ≤ sizeLine then (L2.atI z.cps.toList i).map fun c => D.str ⟨#[c]⟩ else none) = some d) :
    z.length ≤ sizeLine ∧ ∃ c, L2.atI z.cps.toList i = some c ∧ d = .str ⟨#[c]⟩ := by
  split at e
  · rename_i hz
    refine ⟨hz, ?_⟩
    cases g : L2.atI z.cps.toList i with
    | none => rw [g] at e; cases e
    | some c =>
      rw [g] at e
      cases e
      exact ⟨c, rfl, rfl⟩
  · cases e
theorem de_ix [Stab R] [Stab S] (ha : DX R X W a ta) (hb : DX S X W b tb) (hs : PlainIx b := by exact fun _ _ => rfl) : DE X W (.Subscript a b pos) (dOp ixD ta tb) := by
  refine DX.of (pe_ix ix_seq ha.pe hb.pe hs) fun B Ex ρ ω σ H Q rep q => two rep q fun x y dx dy H2 ω2 k rp zx zy ⟨z, e, q2⟩ => ?_
  have zx' := Stab.bq zx
  have zy' := Stab.bq zy
  unfold ixD at e
  split at e
  · obtain ⟨p, vs, rfl, h1, h2⟩ := zx'.ofL
    obtain ⟨v, g1, g2⟩ := h2.atI e
    exact .inl ⟨p, vs, _, v, rfl, zy'.ofI, SqL.of h1, g1, z, ω2, k, rp.wo, g2, q2⟩
  · obtain ⟨p, vs, rfl, h1, _, h2⟩ := zx'.ofT
    obtain ⟨v, g1, g2⟩ := h2.atI e
    exact .inr (.inl ⟨p, vs, _, v, rfl, zy'.ofI, h1.sq, g1, z, ω2, k, rp.wo, g2, q2⟩)
  · obtain ⟨hz, c, g, e2⟩ := ixS e
    subst e2
    exact .inr (.inr ⟨_, _, c, zx'.ofS, zy'.ofI, hz, g, _, ω2, k, rp.wo, .str _, q2⟩)
  · cases e
/-- d[key], a dict with int and text keys -/
def valD (ds : List (Key × D)) (k : Key) : Option D := (ds.find? fun kd => decide (kd.1 = k)).map (·.2)
def putD (ds : List (Key × D)) (k : Key) (d : D) : List (Key × D) :=
  if (ds.any fun kd => decide (kd.1 = k)) = true then ds.map (fun kd => if kd.1 = k then (kd.1, d) else kd) else ds ++ [(k, d)]
def keyD : D → Option Key
  | .int i => some (.inl i)
  | .str x => some (.inr x)
  | _ => none
theorem DqK.val {H : Hp} {Ex : Addr → Prop} {k : Key} : ∀ {vs : List (Key × V)} {ds : List (Key × D)}, DqK H Ex vs ds → (∀ d, valD ds k = some d → ∃ v, valV vs k = some v ∧ Dq H Ex v d) ∧ (valD ds k = none → valV vs k = none)
  | _, _, .nil => ⟨fun d e => by simp [valD] at e, fun _ => rfl⟩
  | _, _, .cons (k := k') (v := v) (d := d') h t => by
    obtain ⟨h1, h2⟩ := DqK.val (k := k) t
    by_cases e : k' = k
    · refine ⟨fun d q => ?_, fun q => ?_⟩
      · simp [valD, e] at q
        subst q
        exact ⟨v, valV_pos (p := (k', v)) e, h⟩
      · simp [valD, e] at q
    · refine ⟨fun d q => ?_, fun q => ?_⟩
      · rw [valV_neg (p := (k', v)) e]
        exact h1 d (by simpa [valD, e] using q)
      · rw [valV_neg (p := (k', v)) e]
        exact h2 (by simpa [valD, e] using q)
theorem DqK.any {H : Hp} {Ex : Addr → Prop} {k : Key} : ∀ {vs : List (Key × V)} {ds : List (Key × D)}, DqK H Ex vs ds → (vs.any fun kv => decide (kv.1 = k)) = ds.any fun kd => decide (kd.1 = k)
  | _, _, .nil => rfl
  | _, _, .cons _ t => by rw [List.any_cons, List.any_cons, DqK.any t]
theorem DqK.app {H : Hp} {Ex : Addr → Prop} : ∀ {vs ws : List (Key × V)} {ds es : List (Key × D)}, DqK H Ex vs ds → DqK H Ex ws es → DqK H Ex (vs ++ ws) (ds ++ es)
  | _, _, _, _, .nil, s => s
  | _, _, _, _, .cons r t, s => .cons r (DqK.app t s)
theorem DqK.upd {H : Hp} {Ex : Addr → Prop} {k : Key} {v : V} {d : D} (q : Dq H Ex v d) : ∀ {vs : List (Key × V)} {ds : List (Key × D)}, DqK H Ex vs ds →
    DqK H Ex (vs.map fun kv => if kv.1 = k then (kv.1, v) else kv) (ds.map fun kd => if kd.1 = k then (kd.1, d) else kd)
  | _, _, .nil => .nil
  | _, _, .cons (k := k') h t => by
    rw [List.map_cons, List.map_cons]
    by_cases e : k' = k
    · simp only [e, if_true]
      exact .cons q (DqK.upd q t)
    · simp only [e, if_false]
      exact .cons h (DqK.upd q t)
theorem DqK.put {H : Hp} {Ex : Addr → Prop} {k : Key} {v : V} {d : D} {vs : List (Key × V)} {ds : List (Key × D)} (h : DqK H Ex vs ds) (q : Dq H Ex v d) : DqK H Ex (putK vs k v) (putD ds k d) := by
  unfold putK putD
  rw [h.any]
  by_cases e : (ds.any fun kd => decide (kd.1 = k)) = true
  · rw [if_pos e, if_pos e]
    exact h.upd q
  · rw [if_neg e, if_neg e]
    exact h.app (.cons q .nil)
theorem key_ok {H : Hp} {Ex : Addr → Prop} {v : V} {d : D} {k : Key} (h : Bq W H Ex v d) (e : keyD d = some k) : v = kV k := by
  cases d with
  | int i => cases e; exact h.ofI
  | str x => cases e; exact h.ofS
  | non => cases e
  | bl _ => cases e
  | lst _ => cases e
  | tup _ => cases e
  | dic _ => cases e
  | ob _ => cases e
  | obj _ _ _ => cases e
  | ext _ _ => cases e
  | exc _ _ _ => cases e
def ixK : D → D → Option D
  | .dic ds, k => (keyD k).bind fun k => valD ds k
  | _, _ => none
theorem de_ixK [Stab R] [Stab S] (hu : X.A.units + 64 < cLine) (ha : DX R X W a ta) (hb : DX S X W b tb) (hs : NoSl b := by exact fun _ _ => rfl) : DE X W (.Subscript a b pos) (dOp ixK ta tb) := by
  refine DX.of (pe_dget (by omega) ha.pe hb.pe hs) fun B Ex ρ ω σ H Q rep q => two rep q fun x y dx dy H2 ω2 k rp zx zy ⟨z, e, q2⟩ => ?_
  have zx' := Stab.bq zx
  have zy' := Stab.bq zy
  unfold ixK at e
  split at e
  · rename_i ds
    cases ek : keyD dy with
    | none => rw [ek] at e; cases e
    | some kk =>
      rw [ek] at e
      obtain ⟨p, vs, rfl, h1, h2⟩ := zx'.ofK
      obtain ⟨v, g1, g2⟩ := h2.val.1 z e
      have ey := key_ok zy' ek
      subst ey
      exact ⟨p, v, rfl, by rw [← g1]; exact DGet.k h1, z, ω2, k, rp.wo, g2, q2⟩
  · cases e
/-! ## slices -/
def cutD (xs : List D) (lo hi : Option Int) : List D := (xs.drop (HT.sIx xs.length 0 lo)).take (HT.sIx xs.length xs.length hi - HT.sIx xs.length 0 lo)
def slD (x : D) (lo hi : Option Int) : Option D := match x with
  | .lst xs => some (.lst (cutD xs lo hi))
  | .tup xs => some (.tup (cutD xs lo hi))
  | .str z => if z.length ≤ sizeLine then some (.str (cutS z lo hi)) else none
  | _ => none
theorem DqL.cutV {H : Hp} {Ex : Addr → Prop} {vs : List V} {ds : List D} (h : DqL H Ex vs ds) (lo hi : Option Int) : DqL H Ex (L2.cutV vs lo hi) (cutD ds lo hi) := by
  unfold L2.cutV cutD
  rw [h.length]
  exact h.cut _ _
/-- a part of a slice -/
def dNo {W : Wo} : Rho → W.Om → (Option Int → W.Om → Prop) → Prop := fun _ ω Q => Q none ω
def dPart {W : Wo} (t : DT W) : Rho → W.Om → (Option Int → W.Om → Prop) → Prop := fun ρ ω Q => t ρ ω fun x ω1 => ∃ i, x = .int i ∧ Q (some i) ω1
structure DO (X : Cx) (W : Wo) (e : Option Expr) (t : Rho → W.Om → (Option Int → W.Om → Prop) → Prop) : Prop where
  ex : ∃ te, PO X e te ∧ ∀ (B : Bs) (Ex : Addr → Prop) (ρ : Rho) (ω : W.Om) (σ : List (Option V)) (H : Hp) (Q : Option Int → W.Om → Prop) (Q' : Option Int → Hp → Prop), Rep W B Ex H σ ρ ω → t ρ ω Q →
    (∀ o ω' H', Q o ω' → Kp W H H' → W.at Ex ω' H' → Q' o H') → te σ H Q'
theorem do_no : DO X W none dNo := ⟨_, po_none, fun B Ex ρ ω σ H Q Q' rep q f => f none ω H q Kp.refl rep.wo⟩
theorem do_some (h : DE X W e ta) : DO X W (some e) (dPart ta) := ⟨_, po_some h.pe, fun B Ex ρ ω σ H Q Q' rep q f => ⟨B, Ex, ρ, ω, _, rep, q, fun d ω' v H' ⟨i, e, q'⟩ k w z => by
  subst e
  cases z
  exact ⟨i, rfl, f _ _ _ q' k w⟩⟩⟩
def dSl {W : Wo} (ta : DT W) (tl th : Rho → W.Om → (Option Int → W.Om → Prop) → Prop) : DT W := fun ρ ω Q => ta ρ ω fun x ω1 => tl ρ ω1 fun l ω2 => th ρ ω2 fun h ω3 => ∃ z, slD x l h = some z ∧ Q z ω3
theorem de_sl [Stab R] {lo hi : Option Expr} {p2 : Pos} {tl th : Rho → W.Om → (Option Int → W.Om → Prop) → Prop} (ha : DX R X W a ta) (hl : DO X W lo tl) (hh : DO X W hi th) :
    DE X W (.Subscript a (.Slice lo hi none p2) pos) (dSl ta tl th) := by
  obtain ⟨tel, l1, l2⟩ := hl
  obtain ⟨teh, g1, g2⟩ := hh
  refine DX.of (pe_slice (sl_list.or (sl_tupF.or sl_str)) ha.pe l1 g1) fun B Ex ρ ω σ H Q rep q => ⟨B, Ex, ρ, ω, _, rep, q, fun d ω1 v H1 q1 k1 w1 z1 => ?_⟩
  refine l2 B Ex ρ ω1 σ H1 _ _ (rep.go k1 w1) q1 fun l ω2 H2 q2 k2 w2 => g2 B Ex ρ ω2 σ H2 _ _ ((rep.go k1 w1).go k2 w2) q2 fun h ω3 H3 q3 k3 w3 => ?_
  obtain ⟨z, e, q3⟩ := q3
  have rp := ((rep.go k1 w1).go k2 w2).go k3 w3
  have zz := Stab.bq (Stab.keep (fun _ m => rep.muEx m) (k2.trans k3) z1)
  have kk := k1.trans (k2.trans k3)
  unfold slD at e
  split at e
  · cases e
    obtain ⟨p, vs, rfl, h1, h2⟩ := zz.ofL
    exact .inl ⟨p, vs, rfl, SqL.of h1, fun p n => ⟨_, ω3, kk.trans (Kp.same (same_upd n)), W.gr w3 (same_upd n), .lst upd_same (rp.new n) ((h2.cutV l h).same (same_upd n)), q3⟩⟩
  · cases e
    obtain ⟨p, vs, rfl, h1, n1, h2⟩ := zz.ofT
    refine .inr (.inl ⟨p, vs, rfl, h1.sq, fun hw => ⟨_, ω3, kk, w3, h1.dq n1 ?_, q3⟩, fun _ p o n od => ⟨_, ω3, kk.trans (Kp.same (same_upd n)), W.gr w3 (same_upd n), .tup upd_same od (rp.new n) ((h2.cutV l h).same (same_upd n)), q3⟩⟩)
    have e1 := h2.cutV l h
    have e2 : L2.cutV vs l h = vs := by
      unfold L2.cutV
      rw [hw.1, hw.2]
      simp
    rw [e2] at e1
    exact e1
  · split at e
    · cases e
      exact .inr (.inr ⟨_, zz.ofS, by assumption, _, ω3, kk, w3, .str _, q3⟩)
    · cases e
  · cases e
/-! ## built-ins -/
/-- f(x), as data -/
def F1 (X : Cx) (W : Wo) (f : Value) (g : D → Option D) : Prop :=
  ∃ r : List V → Hp → VK → Prop, CallR X f r ∧ ∀ {H : Hp} {Ex : Addr → Prop} {v : V} {d z : D} {Q : VK}, (∀ a, Ex a → H a ≠ none) → Bq W H Ex v d → g d = some z →
    (∀ v H', Same H H' → Dq H' Ex v z → Q v H') → r [v] H Q
def dF1 {W : Wo} (g : D → Option D) (ta : DT W) : DT W := fun ρ ω Q => ta ρ ω fun x ω1 => ∃ z, g x = some z ∧ Q z ω1
theorem de_f1 [Stab R] {x : Str} {id : String} {p : Pos} {g : D → Option D} (hf : F1 X W (.builtin id) g) (hg : Gl X x) (hm : X.mg x = none) (hv : bootBuiltins x = some (.builtin id)) (ha : DX R X W e ta)
    (hn : x ≠ "__name__" := by decide) (hdb : (x == ("__debug__" : Str)) = false := by decide) (he : starEach [e] X.env = (false, eval e X.env) :: starEach [] X.env := by rfl) (hpl : (backTo pos (starEach [] X.env)).any (·.1) = false := by rfl) :
    DE X W (.Call (.Name x p) [e] [] pos) (dF1 g ta) := by
  obtain ⟨r, h1, h2⟩ := hf
  exact DX.of (pe_callB h1 hg hm hv (pa_cons ha.pe pa_nil he) hn hdb he hpl) fun B Ex ρ ω σ H Q rep q => ⟨B, Ex, ρ, ω, _, rep, q, fun d ω1 v H1 ⟨z, e, q1⟩ k1 w1 z1 =>
    h2 (rep.go k1 w1).tr (Stab.bq z1) e fun v H2 sm dz => ⟨z, ω1, k1.trans (Kp.same sm), W.gr w1 sm, dz, q1⟩⟩
theorem de_f1T [Stab R] {x : Str} {id : String} {p : Pos} {g : D → Option D} (hf : F1 X W (.type id) g) (hg : Gl X x) (hm : X.mg x = none) (hv : bootBuiltins x = some (.type id)) (ha : DX R X W e ta)
    (hn : x ≠ "__name__" := by decide) (hdb : (x == ("__debug__" : Str)) = false := by decide) (he : starEach [e] X.env = (false, eval e X.env) :: starEach [] X.env := by rfl) (hpl : (backTo pos (starEach [] X.env)).any (·.1) = false := by rfl) :
    DE X W (.Call (.Name x p) [e] [] pos) (dF1 g ta) := by
  obtain ⟨r, h1, h2⟩ := hf
  exact DX.of (pe_callTy h1 hg hm hv (pa_cons ha.pe pa_nil he) hn hdb he hpl) fun B Ex ρ ω σ H Q rep q => ⟨B, Ex, ρ, ω, _, rep, q, fun d ω1 v H1 ⟨z, e, q1⟩ k1 w1 z1 =>
    h2 (rep.go k1 w1).tr (Stab.bq z1) e fun v H2 sm dz => ⟨z, ω1, k1.trans (Kp.same sm), W.gr w1 sm, dz, q1⟩⟩
/-- f(x, y), as data -/
def F2 (X : Cx) (W : Wo) (f : Value) (g : D → D → Option D) : Prop :=
  ∃ r : List V → Hp → VK → Prop, CallR X f r ∧ ∀ {H : Hp} {Ex : Addr → Prop} {v w : V} {d d' z : D} {Q : VK}, (∀ a, Ex a → H a ≠ none) → Bq W H Ex v d → Bq W H Ex w d' → g d d' = some z →
    (∀ v H', Same H H' → Dq H' Ex v z → Q v H') → r [v, w] H Q
theorem de_f2 [Stab R] [Stab S] {x : Str} {id : String} {p : Pos} {g : D → D → Option D} (hf : F2 X W (.builtin id) g) (hg : Gl X x) (hm : X.mg x = none) (hv : bootBuiltins x = some (.builtin id)) (ha : DX R X W a ta) (hb : DX S X W b tb)
    (hn : x ≠ "__name__" := by decide) (hdb : (x == ("__debug__" : Str)) = false := by decide) (he : starEach [a, b] X.env = (false, eval a X.env) :: starEach [b] X.env := by rfl) (he2 : starEach [b] X.env = (false, eval b X.env) :: starEach [] X.env := by rfl)
    (hpl : (backTo pos (starEach [b] X.env)).any (·.1) = false := by rfl) :
    DE X W (.Call (.Name x p) [a, b] [] pos) (dOp g ta tb) := by
  obtain ⟨r, h1, h2⟩ := hf
  refine DX.of (pe_callB h1 hg hm hv (pa_cons ha.pe (pa_cons hb.pe pa_nil he2) he) hn hdb he hpl) fun B Ex ρ ω σ H Q rep q => two rep q fun x y dx dy H2 ω2 k rp zx zy ⟨z, e, q2⟩ => ?_
  exact h2 rp.tr (Stab.bq zx) (Stab.bq zy) e fun v H' sm dz => ⟨z, ω2, k.trans (Kp.same sm), W.gr rp.wo sm, dz, q2⟩
end
/-- isinstance(x, T), T a built-in class -/
def tyn : D → String
  | .non => "NoneType"
  | .bl _ => "bool"
  | .int _ => "int"
  | .str _ => "str"
  | .lst _ => "list"
  | .tup _ => "tuple"
  | .dic _ => "dict"
  | .ob _ => ""
  | .obj _ _ _ => ""
  | .ext _ _ => ""
  | .exc _ _ _ => ""
def isIT (a T : String) : Bool := a == T || (a == "bool" && T == "int")
def isI (T : String) (d : D) : Bool := isIT (tyn d) T
def isObD : D → Bool
  | .ob _ => true
  | .obj _ _ _ => true
  | .ext _ _ => true
  | .exc _ _ _ => true
  | _ => false
/-- the classes that are asked for -/
def askT (T : String) : Bool := T == "int" || T == "bool" || T == "str" || T == "list" || T == "tuple" || T == "dict"
section
variable {R S : RQ} {X : Cx} {W : Wo} {a b c e : Expr} {pos : Pos} {ta tb tc : DT W}
def dIsi {W : Wo} (T : String) (ta : DT W) : DT W := fun ρ ω Q => ta ρ ω fun x ω1 => isObD x = false ∧ Q (.bl (isI T x)) ω1
theorem isi_kit {K : PySem.W.Frag} {H : Hp} {Ex : Addr → Prop} {v : V} {d : D} {T : String} (hT : askT T = true) (h : Bq W H Ex v d) (n : isObD d = false) : ∃ t, TyX K H v t ∧ PySem.W.kitOne K t (.type T) = some (isI T d) := by
  have cases6 : T = "int" ∨ T = "bool" ∨ T = "str" ∨ T = "list" ∨ T = "tuple" ∨ T = "dict" := by
    simpa [askT, Bool.or_eq_true, or_assoc] using hT
  have go : ∀ a ∈ ["NoneType", "bool", "int", "str", "list", "tuple", "dict"], PySem.W.kitOne K (.type a) (.type T) = some (isIT a T) := by
    intro a ha
    refine kit_ty ?_
    simp only [List.mem_cons, List.not_mem_nil, or_false] at ha
    rcases cases6 with rfl | rfl | rfl | rfl | rfl | rfl <;> rcases ha with rfl | rfl | rfl | rfl | rfl | rfl | rfl <;> decide +kernel
  cases d with
  | ob a => cases n
  | obj _ _ _ => cases n
  | ext _ _ => cases n
  | exc _ _ _ => cases n
  | non => rw [h.ofN]; exact ⟨_, .base .non, go _ (by decide)⟩
  | bl x => rw [h.ofB]; exact ⟨_, .base (.bl x), go _ (by decide)⟩
  | int x => rw [h.ofI]; exact ⟨_, .base (.int x), go _ (by decide)⟩
  | str x => rw [h.ofS]; exact ⟨_, .base (.str x), go _ (by decide)⟩
  | lst xs =>
    obtain ⟨p, vs, rfl, h1, _⟩ := h.ofL
    exact ⟨_, .base (.lst h1), go _ (by decide)⟩
  | tup xs =>
    obtain ⟨p, vs, rfl, h1, _⟩ := h.ofT
    obtain ⟨o, h1, _⟩ := h1
    exact ⟨_, .fTuple h1, go _ (by decide)⟩
  | dic xs =>
    obtain ⟨p, vs, rfl, h1, _⟩ := h.ofK
    exact ⟨_, .base (.dK h1), go _ (by decide)⟩
theorem de_isi [Stab R] {T : String} {x : Str} {p pt : Pos} (hT : askT T = true) (hg : Gl X "isinstance") (hm : X.mg "isinstance" = none) (ha : DX R X W a ta) (hgx : Gl X x) (hmx : X.mg x = none) (hv : bootBuiltins x = some (.type T)) (hn : x ≠ "__name__" := by decide)
    (hdb : (x == ("__debug__" : Str)) = false := by decide) (he : starEach [a, .Name x pt] X.env = (false, eval a X.env) :: starEach [.Name x pt] X.env := by rfl) (he2 : starEach [.Name x pt] X.env = (false, eval (.Name x pt) X.env) :: starEach [] X.env := by rfl)
    (hpl : (backTo pos (starEach [.Name x pt] X.env)).any (·.1) = false := by rfl) :
    DE X W (.Call (.Name "isinstance" p) [a, .Name x pt] [] pos) (dIsi T ta) := by
  refine DX.of (pe_callB call_isi hg hm (by decide +kernel) (pa_cons ha.pe (pa_cons (pe_bltn (v := .ty T) hgx hmx hv rfl hn hdb) pa_nil he2) he) (by decide) (by decide) he hpl) fun B Ex ρ ω σ H Q rep q => ⟨B, Ex, ρ, ω, _, rep, q, fun d ω1 v H1 ⟨n, q1⟩ k1 w1 z1 => ?_⟩
  obtain ⟨t, h1, h2⟩ := isi_kit (K := X.K) hT (Stab.bq z1) n
  exact ⟨v, .ty T, t, .type T, isI T d, rfl, .ty T, h1, h2, _, ω1, k1, w1, .bl _, q1⟩
end
/-! ## single built-ins -/
def lenD : D → Option D
  | .lst xs => some (.int xs.length)
  | .tup xs => some (.int xs.length)
  | .str z => if z.length ≤ sizeLine then some (.int z.length) else none
  | _ => none
def absD : D → Option D
  | .int i => some (.int (if i < 0 then -i else i))
  | _ => none
def boolsD : List D → Option (List Bool)
  | [] => some []
  | .bl b :: ds => (boolsD ds).map fun r => b :: r
  | _ => none
def allD : D → Option D
  | .lst xs => (boolsD xs).map fun bs => .bl (bs.all id)
  | _ => none
def anyD : D → Option D
  | .lst xs => (boolsD xs).map fun bs => .bl (bs.any id)
  | _ => none
def tupD : D → Option D
  | .lst xs => some (.tup xs)
  | .tup xs => some (.tup xs)
  | _ => none
def lstD : D → Option D
  | .lst xs => some (.lst xs)
  | .tup xs => some (.lst xs)
  | _ => none
/-- what repr wants -/
def shwOk (d : D) : Bool := d.pl && d.py.showable && decide (d.py.shown.length ≤ sizeLine) && decide (d.py.depth ≤ 60)
def reprD (d : D) : Option D := if shwOk d = true then some (.str d.py.shown) else none
theorem bools_ok {H : Hp} {Ex : Addr → Prop} : ∀ {vs : List V} {ds : List D} {bs : List Bool}, DqL H Ex vs ds → boolsD ds = some bs → vs = bs.map V.bl
  | _, _, _, .nil, e => by cases e; rfl
  | _, _, bs, .cons (.bl b) (ds := ds) t, e => by
    have e' : (boolsD ds).map (fun r => b :: r) = some bs := e
    cases q : boolsD ds with
    | none => rw [q] at e'; cases e'
    | some r =>
      rw [q] at e'
      cases e'
      rw [bools_ok t q]
      rfl
  | _, _, _, .cons .non t, e => nomatch e
  | _, _, _, .cons (.int _) t, e => nomatch e
  | _, _, _, .cons (.str _) t, e => nomatch e
  | _, _, _, .cons (.ob _) t, e => nomatch e
  | _, _, _, .cons (.obj _ _ _ _) t, e => nomatch e
  | _, _, _, .cons (.ext _ _ _) t, e => nomatch e
  | _, _, _, .cons (.exc _ _ _ _ _ _) t, e => nomatch e
  | _, _, _, .cons (.lst _ _ _) t, e => nomatch e
  | _, _, _, .cons (.tup _ _ _ _) t, e => nomatch e
  | _, _, _, .cons (.dic _ _ _) t, e => nomatch e
section
variable {X : Cx} {W : Wo}
theorem f_len : F1 X W (.builtin "len") lenD := by
  refine ⟨_, call_len, ?_⟩
  intro H Ex v d z Q tr h e k
  unfold lenD at e
  split at e
  · cases e
    obtain ⟨p, vs, rfl, h1, h2⟩ := h.ofL
    exact ⟨_, _, rfl, .inl ⟨vs, SqL.of h1, rfl⟩, k _ _ (Same.refl H) (by rw [h2.length]; exact .int _)⟩
  · cases e
    obtain ⟨p, vs, rfl, h1, _, h2⟩ := h.ofT
    exact ⟨_, _, rfl, .inr ⟨vs, h1.sq, rfl⟩, k _ _ (Same.refl H) (by rw [h2.length]; exact .int _)⟩
  · split at e
    · cases e
      have ev := h.ofS
      subst ev
      exact ⟨_, _, rfl, ⟨by assumption, rfl⟩, k _ _ (Same.refl H) (.int _)⟩
    · cases e
  · cases e
theorem f_abs : F1 X W (.builtin "abs") absD := by
  refine ⟨_, call_abs, ?_⟩
  intro H Ex v d z Q tr h e k
  unfold absD at e
  split at e
  · cases e
    have ev := h.ofI
    subst ev
    exact ⟨_, rfl, k _ _ (Same.refl H) (.int _)⟩
  · cases e
theorem f_all (hc : X.calm = true) : F1 X W (.builtin "all") allD := by
  refine ⟨_, cr_all hc, ?_⟩
  intro H Ex v d z Q tr h e k
  unfold allD at e
  split at e
  · rename_i xs
    cases q : boolsD xs with
    | none => rw [q] at e; cases e
    | some bs =>
      rw [q] at e
      cases e
      obtain ⟨p, vs, rfl, h1, h2⟩ := h.ofL
      have ev := bools_ok h2 q
      subst ev
      exact ⟨p, bs, rfl, SqL.of h1, k _ _ (Same.refl H) (.bl _)⟩
  · cases e
theorem f_any (hc : X.calm = true) : F1 X W (.builtin "any") anyD := by
  refine ⟨_, cr_any hc, ?_⟩
  intro H Ex v d z Q tr h e k
  unfold anyD at e
  split at e
  · rename_i xs
    cases q : boolsD xs with
    | none => rw [q] at e; cases e
    | some bs =>
      rw [q] at e
      cases e
      obtain ⟨p, vs, rfl, h1, h2⟩ := h.ofL
      have ev := bools_ok h2 q
      subst ev
      exact ⟨p, bs, rfl, SqL.of h1, k _ _ (Same.refl H) (.bl _)⟩
  · cases e
theorem f_tuple : F1 X W (.type "tuple") tupD := by
  refine ⟨_, call_tupleF, ?_⟩
  intro H Ex v d z Q tr h e k
  unfold tupD at e
  split at e
  · cases e
    obtain ⟨p, vs, rfl, h1, h2⟩ := h.ofL
    exact ⟨p, vs, rfl, .inl ⟨SqL.of h1, fun l o n od => k _ _ (same_upd n) (.tup upd_same od (fun m => tr l m n) (h2.same (same_upd n)))⟩⟩
  · cases e
    obtain ⟨p, vs, rfl, h1, n1, h2⟩ := h.ofT
    exact ⟨p, vs, rfl, .inr ⟨h1.sq, k _ _ (Same.refl H) (h1.dq n1 h2)⟩⟩
  · cases e
theorem f_list : F1 X W (.type "list") lstD := by
  refine ⟨_, call_list_of, ?_⟩
  intro H Ex v d z Q tr h e k
  unfold lstD at e
  split at e
  · cases e
    obtain ⟨p, vs, rfl, h1, h2⟩ := h.ofL
    exact ⟨p, vs, rfl, .inl (SqL.of h1), fun l n => k _ _ (same_upd n) (.lst upd_same (fun m => tr l m n) (h2.same (same_upd n)))⟩
  · cases e
    obtain ⟨p, vs, rfl, h1, _, h2⟩ := h.ofT
    exact ⟨p, vs, rfl, .inr h1.sq, fun l n => k _ _ (same_upd n) (.lst upd_same (fun m => tr l m n) (h2.same (same_upd n)))⟩
  · cases e
/-- repr of data -/
def rRepr (W : Wo) : List V → Hp → VK → Prop := fun vs H Q => ∃ Ex v d, vs = [v] ∧ Bq W H Ex v d ∧ shwOk d = true ∧ Q (.str d.py.shown) H
theorem call_reprD (hb : BaseS X.base) (g : Gd X.A) (hu : X.A.units + 64 < cLine) : CallR X (.builtin "repr") (rRepr W) := by
  intro pins s σ H vs us Q I r h
  obtain ⟨Ex, v, d, rfl, hq, hs, q⟩ := h
  obtain ⟨u, rfl, ru⟩ := vals1 r
  unfold shwOk at hs
  simp only [Bool.and_eq_true, decide_eq_true_eq] at hs
  obtain ⟨⟨⟨h1, h2⟩, h3⟩, h4⟩ := hs
  cases d with
  | ob a => exact Bool.noConfusion h1
  | obj _ _ _ => exact Bool.noConfusion h1
  | ext _ _ => exact Bool.noConfusion h1
  | exc _ _ _ => exact Bool.noConfusion h1
  | non =>
    have e := hq.ofN; subst e
    cases ru
    exact PySem.P.repr_of_none ⟨.str _, H, I.tok _, ⟨_, rfl⟩, q⟩
  | bl b =>
    have e := hq.ofB; subst e
    cases ru
    exact PySem.P.repr_of_bool ⟨.str _, H, I.tok _, ⟨_, rfl⟩, q⟩
  | int i =>
    have e := hq.ofI; subst e
    obtain ⟨t, rfl⟩ := ru
    exact PySem.P.repr_of_int (of_decide_eq_true h2) ⟨.str _, H, I.tok _, ⟨_, rfl⟩, q⟩
  | str x =>
    have e := hq.ofS; subst e
    obtain ⟨t, rfl⟩ := ru
    exact PySem.P.repr_of_str ⟨.str _, H, I.tok _, ⟨_, rfl⟩, q⟩ h3
  | lst xs =>
    obtain ⟨as, rd, nn⟩ := hq.reads hb I h1 ru
    obtain ⟨p, vs, rfl, _, _⟩ := hq.ofL
    cases ru
    exact repr_of_reads' rd h2 (fun _ => nn) g (by omega) (fun _ _ e => e) (fun h' u tk hk => ⟨.str _, H, I.kept hk, ⟨u, rfl⟩, q⟩) h3
  | tup xs =>
    obtain ⟨as, rd, nn⟩ := hq.reads hb I h1 ru
    obtain ⟨p, vs, rfl, _, _, _⟩ := hq.ofT
    cases ru
    exact repr_of_reads' rd h2 (fun _ => nn) g (by omega) (fun _ _ e => e) (fun h' u tk hk => ⟨.str _, H, I.kept hk, ⟨u, rfl⟩, q⟩) h3
  | dic xs =>
    obtain ⟨as, rd, nn⟩ := hq.reads hb I h1 ru
    obtain ⟨p, vs, rfl, _, _⟩ := hq.ofK
    cases ru
    exact repr_of_reads' rd h2 (fun _ => nn) g (by omega) (fun _ _ e => e) (fun h' u tk hk => ⟨.str _, H, I.kept hk, ⟨u, rfl⟩, q⟩) h3
theorem f_repr (hb : BaseS X.base) (g : Gd X.A) (hu : X.A.units + 64 < cLine) : F1 X W (.builtin "repr") reprD := by
  refine ⟨_, call_reprD (W := W) hb g hu, ?_⟩
  intro H Ex v d z Q tr h e k
  unfold reprD at e
  split at e
  · cases e
    exact ⟨Ex, v, d, rfl, h, by assumption, k _ _ (Same.refl H) (.str _)⟩
  · cases e
end
end Tk

namespace Tk
open PySem PySem.Spec PyProof.Rows L2

/-! ## slots that change -/
section
variable {W : Wo} {B : Bs} {Ex Ex' Ex2 : Addr → Prop} {H H' H2 : Hp} {σ : List (Option V)} {ρ : Rho} {ω : W.Om} {i : Nat}
theorem get_set_ne {α : Type} {l : List α} {i j : Nat} {x : α} (h : j ≠ i) : (l.set i x)[j]? = l[j]? := List.getElem?_set_ne (Ne.symm h)
theorem of_set {α : Type} {l : List (Option α)} {i j : Nat} {x : Option α} {y : α} (h : (l.set i x)[j]? = some (some y)) : (j = i ∧ x = some y) ∨ (j ≠ i ∧ l[j]? = some (some y)) := by
  by_cases e : j = i
  · subst e
    by_cases hl : j < l.length
    · rw [List.getElem?_set_self hl] at h
      exact .inl ⟨rfl, Option.some.inj h⟩
    · rw [List.getElem?_eq_none (by simpa using hl)] at h
      cases h
  · rw [get_set_ne e] at h
    exact .inr ⟨e, h⟩
theorem lt_of_set {α : Type} {l : List (Option α)} {i : Nat} {x : Option α} {y : α} (h : (l.set i x)[i]? = some (some y)) : i < l.length := by
  by_cases hl : i < l.length
  · exact hl
  · rw [List.getElem?_eq_none (by simpa using hl)] at h
    cases h
/-- a slot gets data -/
theorem Rep.set (R : Rep W B Ex H σ ρ ω) {v : V} {d : D} (q : Dq H Ex v d) (i : Nat) : Rep W B Ex H (σ.set i (some v)) (ρ.set i (some (.d d))) ω where
  wo := R.wo
  mu := R.mu
  sub := R.sub
  out := R.out
  tr0 := R.tr0
  tr := R.tr
  kp := R.kp
  len := by rw [List.length_set, List.length_set]; exact R.len
  sl := fun j z e => by
    rcases of_set e with ⟨h1, h2⟩ | ⟨h1, h2⟩
    · subst h1
      cases h2
      have hl : j < σ.length := by rw [R.len]; exact lt_of_set e
      exact ⟨some v, List.getElem?_set_self hl, q⟩
    · obtain ⟨o, g1, g2⟩ := R.sl j z h2
      exact ⟨o, by rw [get_set_ne h1]; exact g1, g2⟩
  dis := fun j k z y a e1 e2 o1 o2 s1 s2 => by
    rcases of_set e1 with ⟨h1, h2⟩ | ⟨h1, h2⟩
    · cases h2; exact Bool.noConfusion o1
    · rcases of_set e2 with ⟨g1, g2⟩ | ⟨g1, g2⟩
      · cases g2; exact Bool.noConfusion o2
      · rw [get_set_ne h1] at s1
        rw [get_set_ne g1] at s2
        exact R.dis j k z y a h2 g2 o1 o2 s1 s2
  ofr := fun j z a e o s => by
    rcases of_set e with ⟨h1, h2⟩ | ⟨h1, h2⟩
    · cases h2; exact Bool.noConfusion o
    · rw [get_set_ne h1] at s
      exact R.ofr j z a h2 o s
  bb := R.bb
/-- a slot is forgotten -/
theorem Rep.clr (R : Rep W B Ex H σ ρ ω) (i : Nat) (o : Option V) : Rep W B Ex H (σ.set i o) (ρ.set i none) ω where
  wo := R.wo
  mu := R.mu
  sub := R.sub
  out := R.out
  tr0 := R.tr0
  tr := R.tr
  kp := R.kp
  len := by rw [List.length_set, List.length_set]; exact R.len
  sl := fun j z e => by
    rcases of_set e with ⟨h1, h2⟩ | ⟨h1, h2⟩
    · cases h2
    · obtain ⟨o, g1, g2⟩ := R.sl j z h2
      exact ⟨o, by rw [get_set_ne h1]; exact g1, g2⟩
  dis := fun j k z y a e1 e2 o1 o2 s1 s2 => by
    rcases of_set e1 with ⟨h1, h2⟩ | ⟨h1, h2⟩
    · cases h2
    · rcases of_set e2 with ⟨g1, g2⟩ | ⟨g1, g2⟩
      · cases g2
      · rw [get_set_ne h1] at s1
        rw [get_set_ne g1] at s2
        exact R.dis j k z y a h2 g2 o1 o2 s1 s2
  ofr := fun j z a e o s => by
    rcases of_set e with ⟨h1, h2⟩ | ⟨h1, h2⟩
    · cases h2
    · rw [get_set_ne h1] at s
      exact R.ofr j z a h2 o s
  bb := R.bb
/-- a slot is forgotten, as data alone -/
theorem Rep.clr' (R : Rep W B Ex H σ ρ ω) (i : Nat) : Rep W B Ex H σ (ρ.set i none) ω where
  wo := R.wo
  mu := R.mu
  sub := R.sub
  out := R.out
  tr0 := R.tr0
  tr := R.tr
  kp := R.kp
  len := by rw [List.length_set]; exact R.len
  sl := fun j z e => by
    rcases of_set e with ⟨h1, h2⟩ | ⟨h1, h2⟩
    · cases h2
    · exact R.sl j z h2
  dis := fun j k z y a e1 e2 o1 o2 s1 s2 => by
    rcases of_set e1 with ⟨h1, h2⟩ | ⟨h1, h2⟩
    · cases h2
    · rcases of_set e2 with ⟨g1, g2⟩ | ⟨g1, g2⟩
      · cases g2
      · exact R.dis j k z y a h2 g2 o1 o2 s1 s2
  ofr := fun j z a e o s => by
    rcases of_set e with ⟨h1, h2⟩ | ⟨h1, h2⟩
    · cases h2
    · exact R.ofr j z a h2 o s
  bb := R.bb
theorem Rep.out0 (R : Rep W B Ex H σ ρ ω) {p : Addr} (n : H p = none) : B.H0 p = none := by
  cases e : B.H0 p with
  | none => rfl
  | some o =>
    by_cases m : W.Mu p
    · exact absurd n (W.tk R.wo m)
    · have := R.kp p o e m
      rw [n] at this
      cases this
/-- a new object that is the def's own -/
theorem Rep.alloc (R : Rep W B Ex H σ ρ ω) {p : Addr} (n : H p = none) (o : HO) : Rep W B (fun b => Ex b ∨ b = p) (upd H p o) σ ρ ω where
  wo := W.gr (W.le R.wo fun b h => by
    rcases h with h | h
    · exact .inl h
    · subst h; exact .inr n) (same_upd n)
  mu := R.mu
  sub := fun b h => .inl (R.sub b h)
  out := fun b h => by
    rcases h with h | h
    · exact R.out b h
    · subst h; exact .inr (R.out0 n)
  tr0 := R.tr0
  tr := fun b h => by
    rcases h with h | h
    · cases e : H b with
      | none => exact absurd e (R.tr b h)
      | some u => rw [same_upd n b u e]; exact fun z => nomatch z
    · subst h; rw [upd_same]; exact fun z => nomatch z
  kp := R.kp.trans (Kp.same (same_upd n))
  len := R.len
  sl := fun j z e => by
    obtain ⟨u, g1, g2⟩ := R.sl j z e
    refine ⟨u, g1, g2.to (fun _ h => .inl h) (fun a w _ q _ => same_upd n a w q) fun a w q x => ⟨same_upd n a w q, fun m => ?_⟩⟩
    rcases m with m | m
    · exact x m
    · subst m; rw [n] at q; cases q
  dis := R.dis
  ofr := R.ofr
  bb := W.bbs R.bb ⟨fun b h => h.elim .inl fun h => by subst h; exact .inr n, fun b u e _ => same_upd n b u e, fun b h => by
    cases e : H b with
    | none => exact absurd e h
    | some u => rw [same_upd n b u e]; exact fun z => nomatch z⟩
/-- an object that is shut out is changed, no slot has it -/
theorem Rep.poke (R : Rep W B Ex H σ ρ ω) {p : Addr} (hp : Ex p) (h0 : B.H0 p = none) (o : HO)
    (own : ∀ (j : Nat) (z : Sl), ρ[j]? = some (some z) → isOwn z = true → σ[j]? = some (some (.ref p)) → False) : Rep W B Ex (upd H p o) σ ρ ω where
  wo := W.grow R.wo fun b u e m => by
    have : b ≠ p := fun z => by subst z; exact m ⟨hp, R.notMu h0⟩
    rw [upd_ne this]; exact e
  mu := R.mu
  sub := R.sub
  out := R.out
  tr0 := R.tr0
  tr := fun b h => by
    by_cases e : b = p
    · subst e; rw [upd_same]; exact fun z => nomatch z
    · rw [upd_ne e]; exact R.tr b h
  kp := fun b u e m => by
    have : b ≠ p := fun z => by subst z; rw [h0] at e; cases e
    rw [upd_ne this]; exact R.kp b u e m
  len := R.len
  sl := fun j z e => by
    obtain ⟨u, g1, g2⟩ := R.sl j z e
    have ne : ∀ a : Addr, ¬ Ex a → a ≠ p := fun a x z => by subst z; exact x hp
    refine ⟨u, g1, g2.to (fun _ h => h) (fun a w e1 q e3 => ?_) fun a w q x => ⟨by rw [upd_ne (ne a x)]; exact q, x⟩⟩
    have : a ≠ p := fun y => by
      subst y
      subst e1
      exact own j z e e3 g1
    rw [upd_ne this]; exact q
  dis := R.dis
  ofr := R.ofr
  bb := W.bbs R.bb ⟨fun _ h => .inl h, fun b u e x => by rw [upd_ne fun z => by subst z; exact x hp]; exact e, fun b h => by
    by_cases e : b = p
    · subst e; rw [upd_same]; exact fun z => nomatch z
    · rw [upd_ne e]; exact h⟩
/-- no slot has what is new -/
theorem Rep.noOwn (R : Rep W B Ex H σ ρ ω) {p : Addr} (n : H p = none) (j : Nat) (z : Sl) (e : ρ[j]? = some (some z)) (o : isOwn z = true) (s : σ[j]? = some (some (.ref p))) : False := by
  obtain ⟨u, g1, g2⟩ := R.sl j z e
  rw [s] at g1
  cases g1
  cases z with
  | d d => cases o
  | own ds =>
    obtain ⟨a, e1, _, vs, h1, _⟩ := g2
    cases e1
    rw [n] at h1; cases h1
  | odc ds =>
    obtain ⟨a, e1, _, vs, h1, _⟩ := g2
    cases e1
    rw [n] at h1; cases h1
end

theorem Stp.dq {Ex Ex' : Addr → Prop} {H H' : Hp} (s : Stp Ex H Ex' H') {v : V} {d : D} (h : Dq H Ex v d) : Dq H' Ex' v d :=
  h.to fun a o e n => ⟨s.kp a o e n, fun m => by
    rcases s.out a m with q | q
    · exact n q
    · rw [q] at e; cases e⟩
theorem Stp.dqL {Ex Ex' : Addr → Prop} {H H' : Hp} (s : Stp Ex H Ex' H') {v : List V} {d : List D} (h : DqL H Ex v d) : DqL H' Ex' v d :=
  h.to fun a o e n => ⟨s.kp a o e n, fun m => by
    rcases s.out a m with q | q
    · exact n q
    · rw [q] at e; cases e⟩
theorem Stp.dqK {Ex Ex' : Addr → Prop} {H H' : Hp} (s : Stp Ex H Ex' H') {v : List (Key × V)} {d : List (Key × D)} (h : DqK H Ex v d) : DqK H' Ex' v d :=
  h.to fun a o e n => ⟨s.kp a o e n, fun m => by
    rcases s.out a m with q | q
    · exact n q
    · rw [q] at e; cases e⟩

/-! ## statements -/
structure DEndsO (Om : Type) where
  nx : Rho → Om → Prop
  rt : D → Om → Prop
  bk : Rho → Om → Prop := fun _ _ => False
  ct : Rho → Om → Prop := fun _ _ => False
abbrev DEnds (W : Wo) := DEndsO W.Om
/-- a state behind -/
def Beh (W : Wo) (B : Bs) (Ex : Addr → Prop) (H : Hp) (q : Rho → W.Om → Prop) (σ' : List (Option V)) (H' : Hp) : Prop :=
  ∃ Ex' ρ' ω', Stp Ex H Ex' H' ∧ Rep W B Ex' H' σ' ρ' ω' ∧ q ρ' ω'
def Fin (W : Wo) (B : Bs) (q : D → W.Om → Prop) (v : V) (H' : Hp) : Prop :=
  ∃ d ω', Kp W B.H0 H' ∧ W.at B.Ex0 ω' H' ∧ Dq H' B.Ex0 v d ∧ q d ω'
def ends (W : Wo) (B : Bs) (Ex : Addr → Prop) (H : Hp) (D0 : DEnds W) : Ends where
  nx := Beh W B Ex H D0.nx
  rt := Fin W B D0.rt
  bk := Beh W B Ex H D0.bk
  ct := Beh W B Ex H D0.ct
abbrev DTS (W : Wo) := DEnds W → Rho → W.Om → Prop
structure DS (X : Cx) (W : Wo) (st : Stmt) (t : DTS W) : Prop where
  run : ∀ (pins : List (Addr × Obj)) (s : Shared) (σ : List (Option V)) (H : Hp) (B : Bs) (Ex : Addr → Prop) (ρ : Rho) (ω : W.Om) (D0 : DEnds W),
    Inv X pins σ H s → Rep W B Ex H σ ρ ω → t D0 ρ ω → wpAny (model X.prog X.w) X.A (exec st X.env) (SP X pins (ends W B Ex H D0)) X.xe s
structure DSs (X : Cx) (W : Wo) (st : List Stmt) (t : DTS W) : Prop where
  run : ∀ (pins : List (Addr × Obj)) (s : Shared) (σ : List (Option V)) (H : Hp) (B : Bs) (Ex : Addr → Prop) (ρ : Rho) (ω : W.Om) (D0 : DEnds W),
    Inv X pins σ H s → Rep W B Ex H σ ρ ω → t D0 ρ ω → wpAny (model X.prog X.w) X.A (execs st X.env) (SP X pins (ends W B Ex H D0)) X.xe s
structure ELe (E F : Ends) : Prop where
  nx : ∀ σ H, E.nx σ H → F.nx σ H
  rt : ∀ v H, E.rt v H → F.rt v H
  bk : ∀ σ H, E.bk σ H → F.bk σ H
  ct : ∀ σ H, E.ct σ H → F.ct σ H
theorem ELe.refl {E : Ends} : ELe E E := ⟨fun _ _ h => h, fun _ _ h => h, fun _ _ h => h, fun _ _ h => h⟩
theorem ELe.trans {E F G : Ends} (a : ELe E F) (b : ELe F G) : ELe E G :=
  ⟨fun _ _ h => b.nx _ _ (a.nx _ _ h), fun _ _ h => b.rt _ _ (a.rt _ _ h), fun _ _ h => b.bk _ _ (a.bk _ _ h), fun _ _ h => b.ct _ _ (a.ct _ _ h)⟩
theorem SP.le {X : Cx} {pins : List (Addr × Obj)} {E F : Ends} (l : ELe E F) {f : Flow} {s' : Shared} (h : SP X pins E f s') : SP X pins F f s' := by
  cases f with
  | next => obtain ⟨σ, H, I, q⟩ := h; exact ⟨σ, H, I, l.nx _ _ q⟩
  | brk => obtain ⟨σ, H, I, q⟩ := h; exact ⟨σ, H, I, l.bk _ _ q⟩
  | cont => obtain ⟨σ, H, I, q⟩ := h; exact ⟨σ, H, I, l.ct _ _ q⟩
  | ret u => obtain ⟨v, σ, H, I, r, q⟩ := h; exact ⟨v, σ, H, I, r, l.rt _ _ q⟩
theorem ends_le {W : Wo} {B : Bs} {Ex Ex' : Addr → Prop} {H H' : Hp} {D0 : DEnds W} (s : Stp Ex H Ex' H') : ELe (ends W B Ex' H' D0) (ends W B Ex H D0) where
  nx := fun _ _ ⟨E, r, o, a, b, c⟩ => ⟨E, r, o, s.trans a, b, c⟩
  rt := fun _ _ h => h
  bk := fun _ _ ⟨E, r, o, a, b, c⟩ => ⟨E, r, o, s.trans a, b, c⟩
  ct := fun _ _ ⟨E, r, o, a, b, c⟩ => ⟨E, r, o, s.trans a, b, c⟩
def tS (W : Wo) (t : DTS W) : TS := fun D σ H => ∃ B Ex ρ ω D0, Rep W B Ex H σ ρ ω ∧ t D0 ρ ω ∧ ELe (ends W B Ex H D0) D
section
variable {X : Cx} {W : Wo} {st : Stmt} {sts : List Stmt} {t u : DTS W} {e : Expr} {te : DT W} {pos : Pos}
theorem DS.ps (h : DS X W st t) : PS X st (tS W t) := ⟨fun pins s σ H D I ⟨B, Ex, ρ, ω, D0, rep, q, l⟩ =>
  thn (h.run pins s σ H B Ex ρ ω D0 I rep q) fun f s' z => SP.le l z⟩
theorem DSs.pss (h : DSs X W sts t) : PSs X sts (tS W t) := ⟨fun pins s σ H D I ⟨B, Ex, ρ, ω, D0, rep, q, l⟩ =>
  thn (h.run pins s σ H B Ex ρ ω D0 I rep q) fun f s' z => SP.le l z⟩
theorem DS.of {ts : TS} (h : PS X st ts) (f : ∀ (B : Bs) (Ex : Addr → Prop) (ρ : Rho) (ω : W.Om) (σ : List (Option V)) (H : Hp) (D0 : DEnds W), Rep W B Ex H σ ρ ω → t D0 ρ ω → ts (ends W B Ex H D0) σ H) : DS X W st t :=
  ⟨fun pins s σ H B Ex ρ ω D0 I rep q => h.run pins s σ H _ I (f B Ex ρ ω σ H D0 rep q)⟩
theorem DSs.of {ts : TS} (h : PSs X sts ts) (f : ∀ (B : Bs) (Ex : Addr → Prop) (ρ : Rho) (ω : W.Om) (σ : List (Option V)) (H : Hp) (D0 : DEnds W), Rep W B Ex H σ ρ ω → t D0 ρ ω → ts (ends W B Ex H D0) σ H) : DSs X W sts t :=
  ⟨fun pins s σ H B Ex ρ ω D0 I rep q => h.run pins s σ H _ I (f B Ex ρ ω σ H D0 rep q)⟩
def dNext {W : Wo} : DTS W := fun D0 ρ ω => D0.nx ρ ω
def dSeq {W : Wo} (t u : DTS W) : DTS W := fun D0 ρ ω => t { D0 with nx := u D0 } ρ ω
theorem beh_now {B : Bs} {Ex : Addr → Prop} {H : Hp} {σ : List (Option V)} {ρ : Rho} {ω : W.Om} {q : Rho → W.Om → Prop} (rep : Rep W B Ex H σ ρ ω) (h : q ρ ω) : Beh W B Ex H q σ H := ⟨Ex, ρ, ω, Stp.refl, rep, h⟩
theorem dss_nil : DSs X W [] dNext := DSs.of pss_nil fun B Ex ρ ω σ H D0 rep q => beh_now rep q
theorem dss_cons (h : DS X W st t) (h2 : DSs X W sts u) : DSs X W (st :: sts) (dSeq t u) :=
  DSs.of (pss_cons h.ps h2.pss) fun B Ex ρ ω σ H D0 rep q => ⟨B, Ex, ρ, ω, _, rep, q, ⟨fun σ' H' ⟨Ex', ρ', ω', s, r, z⟩ => ⟨B, Ex', ρ', ω', D0, r, z, ends_le s⟩, fun _ _ h => h, fun _ _ h => h, fun _ _ h => h⟩⟩
theorem dss_one (h : DS X W st t) : DSs X W [st] t :=
  DSs.of (pss_one h.ps) fun B Ex ρ ω σ H D0 rep q => ⟨B, Ex, ρ, ω, D0, rep, q, ELe.refl⟩
theorem ds_pass : DS X W (.Pass pos) dNext := DS.of ps_pass fun B Ex ρ ω σ H D0 rep q => beh_now rep q
theorem ds_doc {x j p'} : DS X W (.Expr (.Constant (.str x) j pos) p') dNext := DS.of ps_doc fun B Ex ρ ω σ H D0 rep q => beh_now rep q
def dBrk {W : Wo} : DTS W := fun D0 ρ ω => D0.bk ρ ω
def dCnt {W : Wo} : DTS W := fun D0 ρ ω => D0.ct ρ ω
theorem ds_brk : DS X W (.Break pos) dBrk := DS.of ps_break fun B Ex ρ ω σ H D0 rep q => beh_now rep q
theorem ds_cnt : DS X W (.Continue pos) dCnt := DS.of ps_continue fun B Ex ρ ω σ H D0 rep q => beh_now rep q
theorem Rep.stp {B : Bs} {Ex : Addr → Prop} {H H' : Hp} {σ : List (Option V)} {ρ : Rho} {ω ω' : W.Om} (rep : Rep W B Ex H σ ρ ω) (k : Kp W H H') (w : W.at Ex ω' H') : Stp Ex H Ex H' :=
  Stp.of k (fun _ m => rep.muEx m) (rep.go k w).tr
/-- a value goes out -/
theorem Rep.fin {B : Bs} {Ex : Addr → Prop} {H H' : Hp} {σ : List (Option V)} {ρ : Rho} {ω ω' : W.Om} (rep : Rep W B Ex H σ ρ ω) (k : Kp W H H') (w : W.at Ex ω' H') {v : V} {d : D} {q : D → W.Om → Prop} (z : Dq H' Ex v d) (h : q d ω') : Fin W B q v H' :=
  ⟨d, ω', rep.kp.trans k, W.le w fun b m => .inl (rep.sub b m), z.to fun a o e n => ⟨e, fun m => n (rep.sub a m)⟩, h⟩
def dRet {W : Wo} (te : DT W) : DTS W := fun D0 ρ ω => te ρ ω D0.rt
theorem ds_ret (h : DE X W e te) : DS X W (.Return (some e) pos) (dRet te) := DS.of (ps_ret h.pe) fun B Ex ρ ω σ H D0 rep q =>
  ⟨B, Ex, ρ, ω, _, rep, q, fun d ω' v H' q' k w z => rep.fin k w z q'⟩
def dRetN {W : Wo} : DTS W := fun D0 ρ ω => D0.rt .non ω
theorem ds_retN : DS X W (.Return none pos) dRetN := DS.of ps_retN fun B Ex ρ ω σ H D0 rep q => rep.fin Kp.refl rep.wo .non q
def dDrop {W : Wo} (te : DT W) : DTS W := fun D0 ρ ω => te ρ ω fun _ ω' => D0.nx ρ ω'
theorem ds_expr (h : DE X W e te) (hs : swapsWith e none pos.line X.env = pure false := by rfl) : DS X W (.Expr e pos) (dDrop te) := DS.of (ps_expr h.pe hs) fun B Ex ρ ω σ H D0 rep q =>
  ⟨B, Ex, ρ, ω, _, rep, q, fun d ω' v H' q' k w z => ⟨Ex, ρ, ω', rep.stp k w, rep.go k w, q'⟩⟩
def dSet {W : Wo} (i : Nat) (te : DT W) : DTS W := fun D0 ρ ω => te ρ ω fun d ω' => D0.nx (ρ.set i (some (.d d))) ω'
theorem ds_set {i : Nat} {x : Str} {p' : Pos} (hN : X.N.Nodup) (hi : X.N[i]? = some x) (hx : Loc X.env.scope x) (h : DE X W e te) (hs : swapsWith e (some (.Name x p')) pos.line X.env = pure false := by rfl)
    (hf : X.fn x = true ∨ X.env.scope.names.lookup x = some .local := by first | exact .inl rfl | exact .inr rfl | assumption) : DS X W (.Assign [.Name x p'] e pos) (dSet i te) :=
  DS.of (ps_set hN hi hx h.pe hs hf) fun B Ex ρ ω σ H D0 rep q => ⟨B, Ex, ρ, ω, _, rep, q, fun d ω' v H' q' k w z => ⟨Ex, _, ω', rep.stp k w, (rep.go k w).set z i, q'⟩⟩
def dIfS {W : Wo} (tc : DB W) (t u : DTS W) : DTS W := fun D0 ρ ω => tc ρ ω fun b ω' => if b = true then t D0 ρ ω' else u D0 ρ ω'
theorem ds_if {c : Expr} {a b : List Stmt} {tc : DB W} (hc : DP X W c tc) (ha : DSs X W a t) (hb : DSs X W b u) : DS X W (.If c a b pos) (dIfS tc t u) :=
  DS.of (ps_if hc.pt ha.pss hb.pss) fun B Ex ρ ω σ H D0 rep q => ⟨B, Ex, ρ, ω, _, rep, q, fun c ω' H' q' k w => by
    cases c with
    | true => exact ⟨B, Ex, ρ, ω', D0, rep.go k w, q', ends_le (rep.stp k w)⟩
    | false => exact ⟨B, Ex, ρ, ω', D0, rep.go k w, q', ends_le (rep.stp k w)⟩⟩
end

/-! ## targets -/
def setD (i : Nat) : D → Rho → Option Rho := fun d ρ => some (ρ.set i (some (.d d)))
def setAll : List Nat → List D → Rho → Rho
  | i :: is, d :: ds, ρ => setAll is ds (ρ.set i (some (.d d)))
  | _, _, ρ => ρ
def setT (is : List Nat) : D → Rho → Option Rho := fun d ρ => match d with
  | .tup ds => if ds.length = is.length then some (setAll is ds ρ) else none
  | _ => none
/-- a target as data, setting the slots vs alone -/
structure Gf (g : TG) (vs : List Nat) (f : D → Rho → Option Rho) : Prop where
  run : ∀ {W : Wo} {B : Bs} {Ex : Addr → Prop} {H : Hp} {σ : List (Option V)} {ρ ρ' : Rho} {ω : W.Om} {v : V} {d : D} {Q : List (Option V) → Hp → Prop}, Rep W B Ex H σ ρ ω → Dq H Ex v d → f d ρ = some ρ' →
    (∀ σ', Rep W B Ex H σ' ρ' ω → wipe σ' vs = wipe σ vs → Q σ' H) → g v σ H Q
theorem wipe_set (σ : List (Option V)) (i : Nat) (o : Option V) : ∀ {vs : List Nat}, i ∈ vs → wipe (σ.set i o) vs = wipe σ vs
  | [], h => by cases h
  | v :: vs, h => by
    unfold wipe
    by_cases e : i ∈ vs
    · rw [wipe_set σ i o e]
    · have ev : i = v := by
        rcases List.mem_cons.mp h with h | h
        · exact h
        · exact absurd h e
      subst ev
      have key : ∀ (l : List Nat), i ∉ l → wipe (σ.set i o) l = (wipe σ l).set i o := by
        intro l hl
        induction l with
        | nil => rfl
        | cons j l ih =>
          have h1 : i ∉ l := fun z => hl (List.mem_cons_of_mem _ z)
          have h2 : i ≠ j := fun z => hl (z ▸ List.mem_cons_self)
          show ((wipe (σ.set i o) l).set j none) = ((wipe σ l).set j none).set i o
          rw [ih h1, List.set_comm _ _ h2]
      rw [key vs e, List.set_set]
theorem gf_name (i : Nat) : Gf (gName i) [i] (setD i) := ⟨fun {W B Ex H σ ρ ρ' ω v d Q} rep q e k => by
  cases e
  exact k _ (rep.set q i) (wipe_set σ i _ List.mem_cons_self)⟩
def gNames : List Nat → TGs
  | [] => gNil
  | i :: is => gCons (gName i) (gNames is)
theorem gnames_run {W : Wo} {B : Bs} {Ex : Addr → Prop} {H : Hp} {ω : W.Om} {Q : List (Option V) → Hp → Prop} (all : List Nat) : ∀ (is : List Nat) {vs : List V} {ds : List D} {σ : List (Option V)} {ρ : Rho}, (∀ i ∈ is, i ∈ all) → ds.length = is.length →
    Rep W B Ex H σ ρ ω → DqL H Ex vs ds → (∀ σ', Rep W B Ex H σ' (setAll is ds ρ) ω → wipe σ' all = wipe σ all → Q σ' H) → gNames is vs σ H Q
  | [], vs, ds, σ, ρ, _, hl, rep, h, k => by
    cases h with
    | nil => exact ⟨rfl, k σ rep rfl⟩
    | cons _ _ => cases hl
  | i :: is, vs, ds, σ, ρ, hm, hl, rep, h, k => by
    cases h with
    | nil => cases hl
    | cons h1 h2 =>
      refine ⟨_, _, rfl, ?_⟩
      refine gnames_run all is (fun j hj => hm j (List.mem_cons_of_mem _ hj)) (Nat.succ.inj hl) (rep.set h1 i) h2 fun σ' r e => k σ' r ?_
      rw [e]
      exact wipe_set σ i _ (hm i List.mem_cons_self)
theorem gf_tup (K : PySem.W.Frag) (is : List Nat) : Gf (gTup K is.length (gNames is)) is (setT is) := ⟨fun {W B Ex H σ ρ ρ' ω v d Q} rep q e k => by
  unfold setT at e
  split at e
  · split at e
    · rename_i hl
      cases e
      obtain ⟨a, vs, rfl, h1, _, h2⟩ := (Bq.of (W := W) q).ofT
      exact ⟨a, vs, rfl, h1.sq, by rw [h2.length]; exact hl, gnames_run is is (fun _ h => h) hl rep h2 k⟩
    · cases e
  · cases e⟩

/-! ## what is walked -/
/-- the heap as it was at H1, where S says -/
def Agr (S : Addr → Prop) (H1 H : Hp) : Prop := ∀ b o, H1 b = some o → S b → H b = some o
structure Wk (J : It) (Ex : Addr → Prop) (items : List D) (S : Addr → Prop) (H1 : Hp) : Prop where
  goes : ∀ i H, i < items.length → Agr S H1 H → J.go i H
  stops : ∀ H, Agr S H1 H → J.stop items.length H
  yields : ∀ i H x H' Ex', i < items.length → Agr S H1 H → (∀ a, Ex' a → H a ≠ none) → (∀ a, Ex' a → Ex a ∨ H1 a = none) → J.yld i H x H' → Same H H' ∧ ∃ d, items[i]? = some d ∧ Dq H' Ex' x d
abbrev DIt (W : Wo) := Rho → W.Om → (List D → W.Om → Prop) → Prop
/-- clean: what is walked leans on nothing of the def's own -/
structure DI (cl : Bool) (X : Cx) (W : Wo) (tg iter : Expr) (t : DIt W) : Prop where
  ex : ∃ wi, PI X tg iter wi ∧ ∀ (B : Bs) (Ex : Addr → Prop) (ρ : Rho) (ω : W.Om) (σ : List (Option V)) (H : Hp) (Q : List D → W.Om → Prop) (R' : It → Hp → Prop), Rep W B Ex H σ ρ ω → t ρ ω Q →
    (∀ items ω1 J H1 S, Q items ω1 → Kp W H H1 → W.at Ex ω1 H1 → (∀ b, S b → ¬ W.Mu b) → (cl = true → ∀ b, S b → ¬ Ex b) → Wk J Ex items S H1 → R' J H1) → wi σ H R'
section
variable {R : RQ} {X : Cx} {W : Wo} {tg e : Expr} {te : DT W} {pos : Pos}
/-- a list's or tuple's items, a text's signs -/
def dItL {W : Wo} (te : DT W) : DIt W := fun ρ ω Q => te ρ ω fun d ω' => ∃ ds, d = .lst ds ∧ Q ds ω'
def dItT {W : Wo} (te : DT W) : DIt W := fun ρ ω Q => te ρ ω fun d ω' => ∃ ds, d = .tup ds ∧ Q ds ω'
def signs (z : Str) : List D := z.cps.toList.map fun c => .str ⟨#[c]⟩
def dItS {W : Wo} (te : DT W) : DIt W := fun ρ ω Q => te ρ ω fun d ω' => ∃ z, d = .str z ∧ Q (signs z) ω'
theorem wk_list {Ex : Addr → Prop} {S : Addr → Prop} {H1 : Hp} {a : Addr} {vs : List V} {ds : List D} {K : PySem.W.Frag} (h : H1 a = some (.lst vs)) (ha : S a) (q : DqL H1 Ex vs ds) (hS : ∀ b, ¬ Ex b → S b) : Wk (Itl K a) Ex ds S H1 where
  goes := fun i H hi g => ⟨vs, vs[i]'(by rw [q.length]; exact hi), SqL.of (g a _ h ha), by simp⟩
  stops := fun H g => ⟨vs, SqL.of (g a _ h ha), by rw [q.length]; exact Nat.le_refl _⟩
  yields := fun i H x H' Ex' hi g tr ou ⟨e, y⟩ => by
    subst e
    refine ⟨Same.refl _, ?_⟩
    obtain ⟨d, h1, h2⟩ := q.getV (y vs (SqL.of (g a _ h ha)))
    exact ⟨d, h1, h2.to fun b o e n => ⟨g b o e (hS b n), fun m => by
      rcases ou b m with z | z
      · exact n z
      · rw [z] at e; cases e⟩⟩
theorem wk_tup {Ex : Addr → Prop} {S : Addr → Prop} {H1 : Hp} {a : Addr} {vs : List V} {ds : List D} {K : PySem.W.Frag} (h : TupF H1 a vs) (ha : S a) (q : DqL H1 Ex vs ds) (hS : ∀ b, ¬ Ex b → S b) : Wk (Itt K a) Ex ds S H1 where
  goes := fun i H hi g => ⟨vs, vs[i]'(by rw [q.length]; exact hi), (TupF.sq ⟨_, g a _ h.choose_spec.1 ha, h.choose_spec.2⟩), by simp⟩
  stops := fun H g => ⟨vs, (TupF.sq ⟨_, g a _ h.choose_spec.1 ha, h.choose_spec.2⟩), by rw [q.length]; exact Nat.le_refl _⟩
  yields := fun i H x H' Ex' hi g tr ou ⟨e, y⟩ => by
    subst e
    refine ⟨Same.refl _, ?_⟩
    obtain ⟨d, h1, h2⟩ := q.getV (y vs ((TupF.sq ⟨_, g a _ h.choose_spec.1 ha, h.choose_spec.2⟩)))
    exact ⟨d, h1, h2.to fun b o e n => ⟨g b o e (hS b n), fun m => by
      rcases ou b m with z | z
      · exact n z
      · rw [z] at e; cases e⟩⟩
theorem di_list (h : DE X W e te) : DI true X W tg e (dItL te) := ⟨_, pi_list h.pe, fun B Ex ρ ω σ H Q R' rep q f =>
  ⟨B, Ex, ρ, ω, _, rep, q, fun d ω' v H' ⟨ds, e, q'⟩ k w z => by
    subst e
    obtain ⟨a, vs, rfl, h1, h2⟩ := (Bq.of (W := W) z).ofL
    have ha : ¬ Ex a := by cases z; assumption
    exact ⟨a, rfl, ⟨vs, SqL.of h1⟩, f ds ω' _ H' (fun b => ¬ Ex b) q' k w (fun b n m => n (rep.muEx m)) (fun _ b n => n) (wk_list h1 ha h2 fun _ n => n)⟩⟩⟩
theorem di_tup (h : DE X W e te) : DI true X W tg e (dItT te) := ⟨_, pi_tup h.pe, fun B Ex ρ ω σ H Q R' rep q f =>
  ⟨B, Ex, ρ, ω, _, rep, q, fun d ω' v H' ⟨ds, e, q'⟩ k w z => by
    subst e
    obtain ⟨a, vs, rfl, h1, ha, h2⟩ := (Bq.of (W := W) z).ofT
    exact ⟨a, rfl, ⟨vs, h1.sq⟩, f ds ω' _ H' (fun b => ¬ Ex b) q' k w (fun b n m => n (rep.muEx m)) (fun _ b n => n) (wk_tup h1 ha h2 fun _ n => n)⟩⟩⟩
/-- the def's own list, walked by a comprehension -/
theorem di_own (h : DX Bq X W e te) : DI false X W tg e (dItL te) := ⟨_, pi_list h.pe, fun B Ex ρ ω σ H Q R' rep q f =>
  ⟨B, Ex, ρ, ω, _, rep, q, fun d ω' v H' ⟨ds, e, q'⟩ k w z => by
    subst e
    have : ∃ a vs, v = .ref a ∧ H' a = some (.lst vs) ∧ ¬ W.Mu a ∧ DqL H' Ex vs ds := by
      cases z with
      | of q => cases q with | lst h1 h2 h3 => exact ⟨_, _, rfl, h1, fun m => h2 (rep.muEx m), h3⟩
      | lst h1 h2 h3 => exact ⟨_, _, rfl, h1, h2, h3⟩
    obtain ⟨a, vs, rfl, h1, ha, h2⟩ := this
    exact ⟨a, rfl, ⟨vs, SqL.of h1⟩, f ds ω' _ H' (fun b => ¬ Ex b ∨ b = a) q' k w (fun b n m => by
      rcases n with n | n
      · exact n (rep.muEx m)
      · subst n; exact ha m) (fun z => Bool.noConfusion z) (wk_list h1 (.inr rfl) h2 fun _ n => .inl n)⟩⟩⟩
theorem di_str (h : DE X W e te) : DI true X W tg e (dItS te) := ⟨_, pi_str h.pe, fun B Ex ρ ω σ H Q R' rep q f =>
  ⟨B, Ex, ρ, ω, _, rep, q, fun d ω' v H' ⟨z, e, q'⟩ k w zz => by
    subst e
    cases zz
    have hl : (signs z).length = z.cps.size := by unfold signs; simp
    refine ⟨z, rfl, f (signs z) ω' _ H' (fun b => ¬ Ex b) q' k w (fun b n m => n (rep.muEx m)) (fun _ b n => n) ⟨fun i H hi _ => by rw [hl] at hi; exact hi, fun H _ => by rw [hl]; exact Nat.le_refl _, fun i H x H' Ex' hi _ _ _ ⟨e, c, h1, h2⟩ => ?_⟩⟩
    subst e
    subst h2
    refine ⟨Same.refl _, .str ⟨#[c]⟩, ?_, .str _⟩
    unfold signs
    rw [List.getElem?_map, Array.getElem?_toList, h1]
    rfl⟩⟩
/-- range(n), range(a, b) -/
def rngD (lo : Int) (n : Nat) : List D := (List.range n).map fun (i : Nat) => D.int (lo + (i : Int))
def dRng1 {W : Wo} (te : DT W) : DIt W := fun ρ ω Q => te ρ ω fun d ω' => ∃ n : Int, d = .int n ∧ -(2 ^ 62) ≤ n ∧ n < 2 ^ 62 ∧ Q (rngD 0 n.toNat) ω'
theorem wk_rng {Ex : Addr → Prop} {S : Addr → Prop} {H1 : Hp} {lo : Int} {n : Nat} : Wk (Itr lo n) Ex (rngD lo n) S H1 where
  goes := fun i H hi g => by unfold rngD at hi; simp at hi; exact hi
  stops := fun H g => by
    show n ≤ _
    unfold rngD
    simp
  yields := fun i H x H' Ex' hi g tr ou ⟨e, y⟩ => by
    subst e
    subst y
    unfold rngD at hi
    simp at hi
    refine ⟨Same.refl _, .int (lo + i), ?_, .int _⟩
    unfold rngD
    rw [List.getElem?_map, List.getElem?_range hi]
    rfl
theorem di_rng1 {p : Pos} (hg : Gl X "range") (hm : X.mg "range" = none) (h : DE X W e te) (hs : starEach [e] X.env = [(false, eval e X.env)] := by rfl) : DI true X W tg (.Call (.Name "range" p) [e] [] pos) (dRng1 te) :=
  ⟨_, pi_range1 hg hm (pa_cons h.pe pa_nil hs) hs, fun B Ex ρ ω σ H Q R' rep q f => ⟨B, Ex, ρ, ω, _, rep, q, fun d ω' v H' ⟨n, e, b1, b2, q'⟩ k w z => by
    subst e
    cases z
    exact ⟨n, rfl, b1, b2, f _ ω' _ H' (fun b => ¬ Ex b) q' k w (fun b n m => n (rep.muEx m)) (fun _ b n => n) wk_rng⟩⟩⟩
def dRng2 {W : Wo} (ta tb : DT W) : DIt W := fun ρ ω Q => ta ρ ω fun x ω1 => tb ρ ω1 fun y ω2 => ∃ i j : Int, x = .int i ∧ y = .int j ∧ (-(2 ^ 62) ≤ i ∧ i < 2 ^ 62 ∧ -(2 ^ 62) ≤ j ∧ j < 2 ^ 62) ∧ Q (rngD i (j - i).toNat) ω2
theorem di_rng2 {p : Pos} {a b : Expr} {ta tb : DT W} (hg : Gl X "range") (hm : X.mg "range" = none) (ha : DE X W a ta) (hb : DE X W b tb) (hs : starEach [a, b] X.env = [(false, eval a X.env), (false, eval b X.env)] := by rfl) (hs2 : starEach [b] X.env = [(false, eval b X.env)] := by rfl) :
    DI true X W tg (.Call (.Name "range" p) [a, b] [] pos) (dRng2 ta tb) :=
  ⟨_, pi_range2 hg hm (pa_cons ha.pe (pa_cons hb.pe pa_nil hs2) (by rw [hs, hs2])) hs hs2, fun B Ex ρ ω σ H Q R' rep q f => two rep q fun x y dx dy H2 ω2 k rp zx zy ⟨i, j, e1, e2, bb, q'⟩ => by
    subst e1
    subst e2
    cases zx
    cases zy
    exact ⟨i, j, rfl, bb, f _ ω2 _ H2 (fun b => ¬ Ex b) q' k rp.wo (fun b n m => n (rep.muEx m)) (fun _ b n => n) wk_rng⟩⟩
end

/-! ## comprehensions -/
def wipeD (ρ : Rho) : List Nat → Rho
  | [] => ρ
  | v :: vs => (wipeD ρ vs).set v none
theorem Rep.wipe {W : Wo} {B : Bs} {Ex : Addr → Prop} {H : Hp} {σ : List (Option V)} {ρ : Rho} {ω : W.Om} (R : Rep W B Ex H σ ρ ω) : ∀ vs : List Nat, Rep W B Ex H (L2.wipe σ vs) (wipeD ρ vs) ω
  | [] => R
  | v :: vs => (Rep.wipe R vs).clr v none
/-- tests of a comprehension -/
structure DTs (X : Cx) (W : Wo) (ifs : List Expr) (t : DB W) : Prop where
  ex : ∃ tt, PTs X ifs tt ∧ ∀ (B : Bs) (Ex : Addr → Prop) (ρ : Rho) (ω : W.Om) (σ : List (Option V)) (H : Hp) (Q : Bool → W.Om → Prop) (Q' : Bool → Hp → Prop), Rep W B Ex H σ ρ ω → t ρ ω Q →
    (∀ b ω' H', Q b ω' → Kp W H H' → W.at Ex ω' H' → Q' b H') → tt σ H Q'
def dYes {W : Wo} : DB W := fun _ ω Q => Q true ω
def lcW {W : Wo} (f : D → Rho → Option Rho) (tt : DB W) (te : DT W) (ρ : Rho) : List D → List D → W.Om → (D → W.Om → Prop) → Prop
  | [], acc, ω, Q => Q (.lst acc) ω
  | x :: xs, acc, ω, Q => ∃ ρ', f x ρ = some ρ' ∧ tt ρ' ω fun b ω' => if b = true then te ρ' ω' fun d ω2 => acc.length < sizeLine ∧ lcW f tt te ρ xs (acc ++ [d]) ω2 Q else lcW f tt te ρ xs acc ω' Q
def dLc {W : Wo} (ti : DIt W) (vs : List Nat) (f : D → Rho → Option Rho) (tt : DB W) (te : DT W) : DT W := fun ρ ω Q => ti ρ ω fun items ω1 => lcW f tt te (wipeD ρ vs) items [] ω1 Q
theorem wipe_set_none (v : Nat) : ∀ (l : List (Option V)) (us : List Nat), (L2.wipe (l.set v none) us).set v none = (L2.wipe l us).set v none
  | l, [] => List.set_set ..
  | l, u :: us => by
    show ((L2.wipe (l.set v none) us).set u none).set v none = ((L2.wipe l us).set u none).set v none
    by_cases e : u = v
    · subst e
      rw [List.set_set, List.set_set]
      exact wipe_set_none u l us
    · rw [List.set_comm _ _ e, wipe_set_none v l us, List.set_comm _ _ (Ne.symm e)]
theorem wipe_idem (σ : List (Option V)) : ∀ vs : List Nat, L2.wipe (L2.wipe σ vs) vs = L2.wipe σ vs
  | [] => rfl
  | v :: vs => by
    show (L2.wipe ((L2.wipe σ vs).set v none) vs).set v none = (L2.wipe σ vs).set v none
    rw [wipe_set_none, wipe_idem σ vs]
/-- the walk of a comprehension -/
theorem lc_run {W : Wo} {B : Bs} {Ex : Addr → Prop} {σ : List (Option V)} {ρ : Rho} {H H1 : Hp} {ω ω1 : W.Om} {vs : List Nat} {g : TG} {f : D → Rho → Option Rho} {tt : TT} {te : TE} {ttD : DB W} {teD : DT W} {J : It} {S : Addr → Prop} {items : List D} {Q : D → W.Om → Prop} {D : Addr} {Qd : Hp → Prop}
    (rep : Rep W B Ex H σ ρ ω) (k1 : Kp W H H1) (w1 : W.at Ex ω1 H1) (hm : ∀ b, S b → ¬ W.Mu b) (wk : Wk J Ex items S H1) (hD : H1 D = none) (G : Gf g vs f)
    (ht : ∀ (B : Bs) (Ex : Addr → Prop) (ρ : Rho) (ω : W.Om) (σ : List (Option V)) (H : Hp) (Q : Bool → W.Om → Prop) (Q' : Bool → Hp → Prop), Rep W B Ex H σ ρ ω → ttD ρ ω Q → (∀ b ω' H', Q b ω' → Kp W H H' → W.at Ex ω' H' → Q' b H') → tt σ H Q')
    (he : ∀ (B : Bs) (Ex : Addr → Prop) (ρ : Rho) (ω : W.Om) (σ : List (Option V)) (H : Hp) (Q : Tk.D → W.Om → Prop) (Q' : V → Hp → Prop), Rep W B Ex H σ ρ ω → teD ρ ω Q → (∀ d ω' v H', Q d ω' → Kp W H H' → W.at Ex ω' H' → Dq H' Ex v d → Q' v H') → te σ H Q')
    (q : lcW f ttD teD (wipeD ρ vs) items [] ω1 Q)
    (done : ∀ (acc : List V) (ds : List Tk.D) (ω' : W.Om) (H' : Hp), Q (.lst ds) ω' → Kp W H H' → W.at (fun b => Ex b ∨ b = D) ω' H' → H' D = some (.lst acc) → DqL H' (fun b => Ex b ∨ b = D) acc ds → Qd H') :
    ∃ Wv : Nat → Nat → Hp → Prop, (∃ m, Wv 0 m (upd H1 D (.lst []))) ∧ ∀ i m H, Wv i m H →
      (J.stop i H ∧ Qd H) ∨ (J.go i H ∧ ∃ Nx : Hp → Prop, (∀ H', Nx H' → ∃ m', m' < m ∧ Wv (i + 1) m' H') ∧ ∀ x H', J.yld i H x H' → g x (L2.wipe σ vs) H' fun σ2 H2 => L2.wipe σ2 vs = L2.wipe σ vs ∧ tt σ2 H2 fun b H3 =>
        if b = true then te σ2 H3 fun y H4 => ∃ acc, H4 D = some (.lst acc) ∧ acc.length < sizeLine ∧ Nx (upd H4 D (.lst (acc ++ [y]))) else Nx H3) := by
  have r1 := rep.go k1 w1
  have s1 : Same H1 (upd H1 D (.lst [])) := same_upd hD
  have hD0 : B.H0 D = none := r1.out0 hD
  have nMu : ¬ W.Mu D := fun m => W.tk w1 m hD
  have rw1 := r1.wipe vs
  have nOwn := fun j z e o s => rw1.noOwn (p := D) hD j z e o s
  have neS : ∀ b o, H1 b = some o → b ≠ D := fun b o e z => by subst z; rw [hD] at e; cases e
  let P : Nat → Hp → Prop := fun i H' => ∃ acc ds ωi, i ≤ items.length ∧ H' D = some (.lst acc) ∧ Kp W H1 H' ∧ Rep W B (fun b => Ex b ∨ b = D) H' (L2.wipe σ vs) (wipeD ρ vs) ωi ∧
    DqL H' (fun b => Ex b ∨ b = D) acc ds ∧ lcW f ttD teD (wipeD ρ vs) (items.drop i) ds ωi Q
  have agr : ∀ {H'}, Kp W H1 H' → Agr S H1 H' := fun k b o e sb => k b o e (hm b sb)
  refine ⟨fun i m H' => m = items.length - i ∧ P i H', ⟨items.length, by simp, [], [], ω1, Nat.zero_le _, upd_same, Kp.same s1, rw1.alloc hD _, .nil, by simpa using q⟩, ?_⟩
  rintro i m H2 ⟨rfl, acc, ds, ωi, hi, hd, k2, r2, dl, q2⟩
  by_cases hlt : i < items.length
  · refine .inr ⟨wk.goes i H2 hlt (agr k2), fun H' => P (i + 1) H', fun H' p => ⟨_, by omega, rfl, p⟩, fun x H3 y => ?_⟩
    obtain ⟨sm, d, hd', dq⟩ := wk.yields i H2 x H3 (fun b => Ex b ∨ b = D) hlt (agr k2) r2.tr (fun a h => by
      rcases h with h | h
      · exact .inl h
      · subst h; exact .inr hD) y
    have r3 := r2.grow sm
    have ed : items.drop i = d :: items.drop (i + 1) := by
      rw [List.drop_eq_getElem_cons hlt]
      have : items[i] = d := by
        rw [List.getElem?_eq_getElem hlt] at hd'
        exact Option.some.inj hd'
      rw [this]
    rw [ed] at q2
    obtain ⟨ρ', ef, q3⟩ := q2
    refine G.run r3 dq ef fun σ' rs ew => ?_
    refine ⟨by rw [ew, wipe_idem], ?_⟩
    refine ht _ _ _ _ _ _ _ _ rs q3 fun b ω' H4 q4 k4 w4 => ?_
    have rs4 := rs.go k4 w4
    cases b with
    | false =>
      rw [if_neg Bool.false_ne_true] at q4
      rw [if_neg Bool.false_ne_true]
      exact ⟨acc, ds, ω', hlt, k4 D _ (sm D _ hd) nMu, k2.trans ((Kp.same sm).trans k4), r3.go k4 w4, (dl.same sm).to fun a o e n => ⟨k4 a o e fun z => n (r2.muEx z), n⟩, q4⟩
    | true =>
      rw [if_pos rfl] at q4
      rw [if_pos rfl]
      refine he _ _ _ _ _ _ _ _ rs4 q4 fun d2 ω5 v H5 ⟨hz, q5⟩ k5 w5 dq5 => ?_
      have kk := (Kp.same (W := W) sm).trans (k4.trans k5)
      have hd5 := kk D _ hd nMu
      have r5 := r2.go kk w5
      have ne5 : ∀ a, ¬ (Ex a ∨ a = D) → a ≠ D := fun a n e => n (.inr e)
      refine ⟨acc, hd5, by rw [dl.length]; exact hz, acc ++ [v], ds ++ [d2], ω5, hlt, upd_same, fun b o e n => ?_, r5.poke (.inr rfl) hD0 _ nOwn, ?_, q5⟩
      · rw [upd_ne (neS b o e)]
        exact kk b o (k2 b o e n) n
      · refine DqL.append ?_ (.cons ?_ .nil)
        · exact dl.to fun a o e n => ⟨by rw [upd_ne (ne5 a n)]; exact kk a o e fun z => n (r2.muEx z), n⟩
        · exact dq5.to fun a o e n => ⟨by rw [upd_ne (ne5 a n)]; exact e, n⟩
  · have e : i = items.length := by omega
    subst e
    have e0 : items.drop items.length = [] := List.drop_length
    rw [e0] at q2
    exact .inl ⟨wk.stops H2 (agr k2), done acc ds ωi H2 q2 (k1.trans k2) r2.wo hd dl⟩
section
variable {X : Cx} {W : Wo} {pos : Pos}
theorem dts_nil : DTs X W [] dYes := ⟨_, pts_nil, fun B Ex ρ ω σ H Q Q' rep q f => f true ω H q Kp.refl rep.wo⟩
theorem dts_one {c : Expr} {t : DB W} (h : DP X W c t) : DTs X W [c] t := ⟨_, pts_one h.pt, fun B Ex ρ ω σ H Q Q' rep q f => ⟨B, Ex, ρ, ω, Q, rep, q, f⟩⟩
/-- [e for x in xs if t], as a value -/
theorem de_lc {cl : Bool} {elt tg iter : Expr} {ifs : List Expr} {scope : Scope} {own : List (Str × Nat)} {ti : DIt W} {g : TG} {f : D → Rho → Option Rho} {tt : DB W} {te : DT W} (hc : X.calm = true) (hN : X.N.Nodup) (hi : DI cl X W tg iter ti) (ok : BlkOk X.N X.env.scope scope own)
    (G : Gf g (own.map (·.2)) f) (hg : ∀ (s : Shared) (H : Hp) (C : Addr) (cl : List (Str × Addr)) (fp : List Addr), PG (X.blk s H scope (compEnvC scope cl C X.env) fp) tg g)
    (ht : ∃ tt', (∀ (s : Shared) (H : Hp) (C : Addr) (cl : List (Str × Addr)) (fp : List Addr), PTs (X.blk s H scope (compEnvC scope cl C X.env) fp) ifs tt') ∧
      ∀ (B : Bs) (Ex : Addr → Prop) (ρ : Rho) (ω : W.Om) (σ : List (Option V)) (H : Hp) (Q : Bool → W.Om → Prop) (Q' : Bool → Hp → Prop), Rep W B Ex H σ ρ ω → tt ρ ω Q → (∀ b ω' H', Q b ω' → Kp W H H' → W.at Ex ω' H' → Q' b H') → tt' σ H Q')
    (he : ∀ (s : Shared) (H : Hp) (C : Addr) (cl : List (Str × Addr)) (fp : List Addr), DE (X.blk s H scope (compEnvC scope cl C X.env) fp) W elt te) (hs : ∀ x, foldedSetIterable iter X.env x = pure x := by intro _; rfl) :
    DE X W (.ListComp elt [⟨tg, iter, ifs, 0⟩] scope pos) (dLc ti (own.map (·.2)) f tt te) := by
  obtain ⟨wi, h1, h2⟩ := hi
  obtain ⟨tt', t1, t2⟩ := ht
  refine DX.of (pe_lc hc hN h1 ok hg t1 (fun s H C cl fp => (he s H C cl fp).pe) hs) fun B Ex ρ ω σ H Q rep q => h2 B Ex ρ ω σ H _ _ rep q fun items ω1 J H1 S q1 k1 w1 hm _ wk D hD => ?_
  refine lc_run rep k1 w1 hm wk hD G t2 (fun B Ex ρ ω σ H Q Q' rep q f => ⟨B, Ex, ρ, ω, Q, rep, q, f⟩) q1 fun acc ds ω' H' q' k' w' hd dl => ?_
  have nE : ¬ Ex D := (rep.go k1 w1).new hD
  exact ⟨_, ω', k', W.le w' fun b m => .inl (.inl m), .lst hd nE (dl.to fun a o e n => ⟨e, fun z => n (.inl z)⟩), q'⟩
end
end Tk

namespace Tk
open PySem PySem.Spec PyProof.Rows L2

/-! ## the def's own lists -/
section
variable {W : Wo} {B : Bs} {Ex Ex' Ex2 : Addr → Prop} {H H' H2 : Hp} {σ : List (Option V)} {ρ : Rho} {ω ω' : W.Om} {i : Nat}
/-- a slot is set to an object of the def's own that no other slot has -/
theorem Rep.setSl (R : Rep W B Ex H σ ρ ω) {a : Addr} {z : Sl} (hz : isOwn z = true) (q : Own H Ex a z) (i : Nat) (h0 : B.H0 a = none)
    (ap : ∀ (j : Nat) (y : Sl), j ≠ i → ρ[j]? = some (some y) → isOwn y = true → σ[j]? = some (some (.ref a)) → False) : Rep W B Ex H (σ.set i (some (.ref a))) (ρ.set i (some z)) ω where
  wo := R.wo
  mu := R.mu
  sub := R.sub
  out := R.out
  tr0 := R.tr0
  tr := R.tr
  kp := R.kp
  len := by rw [List.length_set, List.length_set]; exact R.len
  sl := fun j y e => by
    rcases of_set e with ⟨h1, h2⟩ | ⟨h1, h2⟩
    · subst h1
      cases h2
      have hl : j < σ.length := by rw [R.len]; exact lt_of_set e
      refine ⟨some (.ref a), List.getElem?_set_self hl, ?_⟩
      cases z with
      | d d => cases hz
      | own ds => exact ⟨a, rfl, q⟩
      | odc ds => exact ⟨a, rfl, q⟩
    · obtain ⟨o, g1, g2⟩ := R.sl j y h2
      exact ⟨o, by rw [get_set_ne h1]; exact g1, g2⟩
  dis := fun j k y y' b e1 e2 o1 o2 s1 s2 => by
    rcases of_set e1 with ⟨h1, h2⟩ | ⟨h1, h2⟩
    · rcases of_set e2 with ⟨g1, g2⟩ | ⟨g1, g2⟩
      · rw [h1, g1]
      · subst h1
        have hl : j < σ.length := by rw [R.len]; exact lt_of_set e1
        rw [List.getElem?_set_self hl] at s1
        cases s1
        rw [get_set_ne g1] at s2
        exact (ap k y' g1 g2 o2 s2).elim
    · rcases of_set e2 with ⟨g1, g2⟩ | ⟨g1, g2⟩
      · subst g1
        have hl : k < σ.length := by rw [R.len]; exact lt_of_set e2
        rw [List.getElem?_set_self hl] at s2
        cases s2
        rw [get_set_ne h1] at s1
        exact (ap j y h1 h2 o1 s1).elim
      · rw [get_set_ne h1] at s1
        rw [get_set_ne g1] at s2
        exact R.dis j k y y' b h2 g2 o1 o2 s1 s2
  ofr := fun j y b e o s => by
    rcases of_set e with ⟨h1, h2⟩ | ⟨h1, h2⟩
    · subst h1
      have hl : j < σ.length := by rw [R.len]; exact lt_of_set e
      rw [List.getElem?_set_self hl] at s
      cases s
      exact h0
    · rw [get_set_ne h1] at s
      exact R.ofr j y b h2 o s
  bb := R.bb
/-- no slot leans on what was not there: it may be shut out -/
theorem Rep.shut (R : Rep W B Ex H σ ρ ω) {a : Addr} (n : H a = none) (k : Kp W H H') (w : W.at (fun b => Ex b ∨ b = a) ω' H') (t : H' a ≠ none) : Rep W B (fun b => Ex b ∨ b = a) H' σ ρ ω' where
  wo := w
  mu := R.mu
  sub := fun b h => .inl (R.sub b h)
  out := fun b h => by
    rcases h with h | h
    · exact R.out b h
    · subst h; exact .inr (R.out0 n)
  tr0 := R.tr0
  tr := fun b h => by
    rcases h with h | h
    · by_cases m : W.Mu b
      · exact W.tk w m
      · cases e : H b with
        | none => exact absurd e (R.tr b h)
        | some u => rw [k b u e m]; exact fun z => nomatch z
    · subst h; exact t
  kp := R.kp.trans k
  len := R.len
  sl := fun j z e => by
    obtain ⟨u, g1, g2⟩ := R.sl j z e
    refine ⟨u, g1, g2.to (fun _ h => .inl h) (fun b w e1 q e3 => k b w q ?_) fun b w q x => ⟨k b w q fun m => x (R.muEx m), fun m => ?_⟩⟩
    · subst e1
      exact R.notMu (R.ofr j z b e e3 g1)
    · rcases m with m | m
      · exact x m
      · subst m; rw [n] at q; cases q
  dis := R.dis
  ofr := R.ofr
  bb := W.bbs R.bb ⟨fun b h => h.elim .inl fun h => by subst h; exact .inr n, fun b o e x => k b o e fun m => x (R.muEx m), fun b h => by
    by_cases m : W.Mu b
    · exact W.tk w m
    · cases e : H b with
      | none => exact absurd e h
      | some u => rw [k b u e m]; exact fun z => nomatch z⟩
theorem stp_shut (R : Rep W B Ex H σ ρ ω) {a : Addr} (n : H a = none) (k : Kp W H H') (w : W.at (fun b => Ex b ∨ b = a) ω' H') : Stp Ex H (fun b => Ex b ∨ b = a) H' where
  out := fun b h => by
    rcases h with h | h
    · exact .inl h
    · subst h; exact .inr n
  kp := fun b o e x => k b o e fun m => x (R.muEx m)
  tr := fun b h => by
    by_cases m : W.Mu b
    · exact W.tk w m
    · cases e : H b with
      | none => exact absurd e h
      | some u => rw [k b u e m]; exact fun z => nomatch z
/-- the own object in slot i is changed -/
theorem Rep.ownUpd (R : Rep W B Ex H σ ρ ω) {a : Addr} {z y : Sl} {o : HO} (hi : ρ[i]? = some (some z)) (hz : isOwn z = true) (hs : σ[i]? = some (some (.ref a))) (hy : isOwn y = true) (ex : Ex a) (q : Own (upd H a o) Ex a y) :
    Rep W B Ex (upd H a o) σ (ρ.set i (some y)) ω ∧ Stp Ex H Ex (upd H a o) := by
  have h0 := R.ofr i z a hi hz hs
  have other : ∀ (j : Nat) (y : Sl), j ≠ i → (ρ.set i none)[j]? = some (some y) → isOwn y = true → σ[j]? = some (some (.ref a)) → False := fun j y ne e oy s => by
    rw [get_set_ne ne] at e
    exact ne (R.dis j i y z a e hi oy hz s hs)
  have r1 := (R.clr' i).poke ex h0 o fun j y e oy s => by
    by_cases ne : j = i
    · subst ne
      rcases of_set e with ⟨_, h2⟩ | ⟨h1, _⟩
      · cases h2
      · exact h1 rfl
    · exact other j y ne e oy s
  have r2 := r1.setSl hy q i h0 other
  have e1 : σ.set i (some (.ref a)) = σ := by
    apply List.ext_getElem?
    intro j
    by_cases e : j = i
    · subst e
      have hl : j < σ.length := (List.getElem?_eq_some_iff.mp hs).1
      rw [List.getElem?_set_self hl, hs]
    · exact get_set_ne e
  have e2 : (ρ.set i none).set i (some y) = ρ.set i (some y) := List.set_set ..
  rw [e1, e2] at r2
  refine ⟨r2, ⟨fun _ h => .inl h, fun b u e x => ?_, fun b h => ?_⟩⟩
  · rw [upd_ne fun z => by subst z; exact x ex]
    exact e
  · by_cases e : b = a
    · subst e; rw [upd_same]; exact fun z => nomatch z
    · rw [upd_ne e]; exact h
theorem Rep.own (R : Rep W B Ex H σ ρ ω) {ds : List D} (e : ρ[i]? = some (some (.own ds))) : ∃ a vs, σ[i]? = some (some (.ref a)) ∧ Ex a ∧ ¬ W.Mu a ∧ B.H0 a = none ∧ H a = some (.lst vs) ∧ DqL H Ex vs ds := by
  obtain ⟨o, h1, h2⟩ := R.sl i _ e
  cases o with
  | none => exact h2.elim
  | some v =>
    obtain ⟨a, rfl, x, vs, h3, h4⟩ := h2
    have h0 := R.ofr i _ a e rfl h1
    exact ⟨a, vs, h1, x, R.notMu h0, h0, h3, h4⟩
theorem Rep.odc (R : Rep W B Ex H σ ρ ω) {ds : List (Key × D)} (e : ρ[i]? = some (some (.odc ds))) : ∃ a vs, σ[i]? = some (some (.ref a)) ∧ Ex a ∧ ¬ W.Mu a ∧ B.H0 a = none ∧ H a = some (.dK vs) ∧ DqK H Ex vs ds := by
  obtain ⟨o, h1, h2⟩ := R.sl i _ e
  cases o with
  | none => exact h2.elim
  | some v =>
    obtain ⟨a, rfl, x, vs, h3, h4⟩ := h2
    have h0 := R.ofr i _ a e rfl h1
    exact ⟨a, vs, h1, x, R.notMu h0, h0, h3, h4⟩
/-- the own list in slot i is data from now on -/
theorem Rep.frz (R : Rep W B Ex H σ ρ ω) {ds : List D} (e : ρ[i]? = some (some (.own ds))) : ∃ Ex', Rep W B Ex' H σ (ρ.set i (some (.d (.lst ds)))) ω ∧ Stp Ex H Ex' H := by
  obtain ⟨a, vs, h1, h2, nm, h3, h4, h5⟩ := R.own e
  have sub : ∀ b, (Ex b ∧ b ≠ a) → Ex b := fun b h => h.1
  have to : ∀ {v d}, Dq H Ex v d → Dq H (fun b => Ex b ∧ b ≠ a) v d := fun q => q.to fun b o e n => ⟨e, fun m => n m.1⟩
  have toL : ∀ {v d}, DqL H Ex v d → DqL H (fun b => Ex b ∧ b ≠ a) v d := fun q => q.to fun b o e n => ⟨e, fun m => n m.1⟩
  have toK : ∀ {v d}, DqK H Ex v d → DqK H (fun b => Ex b ∧ b ≠ a) v d := fun q => q.to fun b o e n => ⟨e, fun m => n m.1⟩
  refine ⟨fun b => Ex b ∧ b ≠ a, ⟨W.le R.wo fun b h => .inl h.1, R.mu, fun b h => ⟨R.sub b h, fun z => by subst z; exact R.tr0 b h h3⟩, fun b h => R.out b h.1, R.tr0, fun b h => R.tr b h.1, R.kp, by rw [List.length_set]; exact R.len, fun j z ez => ?_, fun j k y y' b e1 e2 o1 o2 s1 s2 => ?_, fun j y b e o s => ?_, W.bbs R.bb ⟨fun b h => .inl h.1, fun _ _ h _ => h, fun _ h => h⟩⟩, ⟨fun b h => .inl h.1, fun _ _ h _ => h, fun _ h => h⟩⟩
  · rcases of_set ez with ⟨g1, g2⟩ | ⟨g1, g2⟩
    · subst g1
      cases g2
      exact ⟨_, h1, .lst h4 (fun m => m.2 rfl) (toL h5)⟩
    · obtain ⟨o, k1, k2⟩ := R.sl j z g2
      refine ⟨o, k1, ?_⟩
      cases o with
      | none => exact k2
      | some v =>
        cases z with
        | d d => exact to k2
        | own es =>
          obtain ⟨b, rfl, x, ws, l1, l2⟩ := k2
          exact ⟨b, rfl, ⟨x, fun z => by subst z; exact g1 (R.dis j i _ _ b g2 e rfl rfl k1 h1)⟩, ws, l1, toL l2⟩
        | odc es =>
          obtain ⟨b, rfl, x, ws, l1, l2⟩ := k2
          exact ⟨b, rfl, ⟨x, fun z => by subst z; exact g1 (R.dis j i _ _ b g2 e rfl rfl k1 h1)⟩, ws, l1, toK l2⟩
  · rcases of_set e1 with ⟨_, g⟩ | ⟨_, g⟩
    · cases g; cases o1
    · rcases of_set e2 with ⟨_, g'⟩ | ⟨_, g'⟩
      · cases g'; cases o2
      · exact R.dis j k y y' b g g' o1 o2 s1 s2
  · rcases of_set e with ⟨_, g⟩ | ⟨_, g⟩
    · cases g; cases o
    · exact R.ofr j y b g o s
theorem Rep.frzK (R : Rep W B Ex H σ ρ ω) {ds : List (Key × D)} (e : ρ[i]? = some (some (.odc ds))) : ∃ Ex', Rep W B Ex' H σ (ρ.set i (some (.d (.dic ds)))) ω ∧ Stp Ex H Ex' H := by
  obtain ⟨a, vs, h1, h2, nm, h3, h4, h5⟩ := R.odc e
  have to : ∀ {v d}, Dq H Ex v d → Dq H (fun b => Ex b ∧ b ≠ a) v d := fun q => q.to fun b o e n => ⟨e, fun m => n m.1⟩
  have toL : ∀ {v d}, DqL H Ex v d → DqL H (fun b => Ex b ∧ b ≠ a) v d := fun q => q.to fun b o e n => ⟨e, fun m => n m.1⟩
  have toK : ∀ {v d}, DqK H Ex v d → DqK H (fun b => Ex b ∧ b ≠ a) v d := fun q => q.to fun b o e n => ⟨e, fun m => n m.1⟩
  refine ⟨fun b => Ex b ∧ b ≠ a, ⟨W.le R.wo fun b h => .inl h.1, R.mu, fun b h => ⟨R.sub b h, fun z => by subst z; exact R.tr0 b h h3⟩, fun b h => R.out b h.1, R.tr0, fun b h => R.tr b h.1, R.kp, by rw [List.length_set]; exact R.len, fun j z ez => ?_, fun j k y y' b e1 e2 o1 o2 s1 s2 => ?_, fun j y b e o s => ?_, W.bbs R.bb ⟨fun b h => .inl h.1, fun _ _ h _ => h, fun _ h => h⟩⟩, ⟨fun b h => .inl h.1, fun _ _ h _ => h, fun _ h => h⟩⟩
  · rcases of_set ez with ⟨g1, g2⟩ | ⟨g1, g2⟩
    · subst g1
      cases g2
      exact ⟨_, h1, .dic h4 (fun m => m.2 rfl) (toK h5)⟩
    · obtain ⟨o, k1, k2⟩ := R.sl j z g2
      refine ⟨o, k1, ?_⟩
      cases o with
      | none => exact k2
      | some v =>
        cases z with
        | d d => exact to k2
        | own es =>
          obtain ⟨b, rfl, x, ws, l1, l2⟩ := k2
          exact ⟨b, rfl, ⟨x, fun z => by subst z; exact g1 (R.dis j i _ _ b g2 e rfl rfl k1 h1)⟩, ws, l1, toL l2⟩
        | odc es =>
          obtain ⟨b, rfl, x, ws, l1, l2⟩ := k2
          exact ⟨b, rfl, ⟨x, fun z => by subst z; exact g1 (R.dis j i _ _ b g2 e rfl rfl k1 h1)⟩, ws, l1, toK l2⟩
  · rcases of_set e1 with ⟨_, g⟩ | ⟨_, g⟩
    · cases g; cases o1
    · rcases of_set e2 with ⟨_, g'⟩ | ⟨_, g'⟩
      · cases g'; cases o2
      · exact R.dis j k y y' b g g' o1 o2 s1 s2
  · rcases of_set e with ⟨_, g⟩ | ⟨_, g⟩
    · cases g; cases o
    · exact R.ofr j y b g o s
end

/-! ## new lists and dicts -/
/-- behind an expression that makes a new list (dict) -/
def PostF (W : Wo) (Ex : Addr → Prop) (H : Hp) (Q : Sl → W.Om → Prop) : VK := fun v H' =>
  ∃ a z ω', v = .ref a ∧ H a = none ∧ Kp W H H' ∧ W.at (fun b => Ex b ∨ b = a) ω' H' ∧ isOwn z = true ∧ Own H' (fun b => Ex b ∨ b = a) a z ∧ Q z ω'
abbrev DFt (W : Wo) := Rho → W.Om → (Sl → W.Om → Prop) → Prop
structure DF (X : Cx) (W : Wo) (e : Expr) (t : DFt W) : Prop where
  ex : ∃ te, PE X e te ∧ ∀ (B : Bs) (Ex : Addr → Prop) (ρ : Rho) (ω : W.Om) (σ : List (Option V)) (H : Hp) (Q : Sl → W.Om → Prop) (Q' : V → Hp → Prop), Rep W B Ex H σ ρ ω → t ρ ω Q → (∀ v H', PostF W Ex H Q v H' → Q' v H') → te σ H Q'
section
variable {R S : RQ} {X : Cx} {W : Wo} {e a b : Expr} {es : List Expr} {pos : Pos} {te ta tb : DT W} {tl : DA W} {t : DTS W} {sts : List Stmt}
def fLst {W : Wo} (tl : DA W) : DFt W := fun ρ ω Q => tl ρ ω fun ds ω1 => ds.length ≤ sizeLine ∧ Q (.own ds) ω1
theorem df_lst (h : DL X W es tl) : DF X W (.List es pos) (fLst tl) := ⟨_, pe_lst h.pa, fun B Ex ρ ω σ H Q Q' rep q f => ⟨B, Ex, ρ, ω, _, rep, q, fun ds ω1 vs H1 ⟨l, q1⟩ k1 w1 z1 => ⟨by rw [z1.length]; exact l, fun p n => by
  refine f _ _ ⟨p, .own ds, ω1, rfl, ?_, k1.trans (Kp.same (same_upd n)), W.gr (W.le w1 fun b h => ?_) (same_upd n), rfl, ⟨.inr rfl, vs, upd_same, z1.to fun a o e x => ⟨same_upd n a o e, fun m => ?_⟩⟩, q1⟩
  · cases e : H p with
    | none => rfl
    | some o =>
      by_cases m : W.Mu p
      · exact absurd n (W.tk w1 m)
      · have := k1 p o e m; rw [n] at this; cases this
  · rcases h with h | h
    · exact .inl h
    · subst h; exact .inr n
  · rcases m with m | m
    · exact x m
    · subst m; rw [n] at e; cases e⟩⟩⟩
theorem Kp.back {W : Wo} {Ex : Addr → Prop} {ω : W.Om} {H H' : Hp} (k : Kp W H H') (w : W.at Ex ω H') {p : Addr} (n : H' p = none) : H p = none := by
  cases e : H p with
  | none => rfl
  | some o =>
    by_cases m : W.Mu p
    · exact absurd n (W.tk w m)
    · have := k p o e m; rw [n] at this; cases this
/-- list(x) -/
def fL1 {W : Wo} (g : D → Option (List D)) (ta : DT W) : DFt W := fun ρ ω Q => ta ρ ω fun x ω1 => ∃ ds, g x = some ds ∧ Q (.own ds) ω1
def lstG : D → Option (List D)
  | .lst xs => some xs
  | .tup xs => some xs
  | _ => none
theorem df_list [Stab R] {p : Pos} (hg : Gl X "list") (hm : X.mg "list" = none) (ha : DX R X W e ta) (he : starEach [e] X.env = (false, eval e X.env) :: starEach [] X.env := by rfl) (hpl : (backTo pos (starEach [] X.env)).any (·.1) = false := by rfl) :
    DF X W (.Call (.Name "list" p) [e] [] pos) (fL1 lstG ta) :=
  ⟨_, pe_callTy call_list_of hg hm (by decide +kernel) (pa_cons ha.pe pa_nil he) (by decide) (by decide) he hpl, fun B Ex ρ ω σ H Q Q' rep q f => ⟨B, Ex, ρ, ω, _, rep, q, fun d ω1 v H1 ⟨ds, e, q1⟩ k1 w1 z1 => by
    have z := Stab.bq z1
    have : ∃ p vs, v = .ref p ∧ (SqL X.K H1 p vs ∨ SqT X.K H1 p vs) ∧ DqL H1 Ex vs ds := by
      unfold lstG at e
      split at e
      · cases e
        obtain ⟨p, vs, e1, h1, h2⟩ := z.ofL
        exact ⟨p, vs, e1, .inl (SqL.of h1), h2⟩
      · cases e
        obtain ⟨p, vs, e1, h1, _, h2⟩ := z.ofT
        exact ⟨p, vs, e1, .inr h1.sq, h2⟩
      · cases e
    obtain ⟨p, vs, rfl, h1, h2⟩ := this
    refine ⟨p, vs, rfl, h1, fun l n => f _ _ ⟨l, .own ds, ω1, rfl, k1.back w1 n, k1.trans (Kp.same (same_upd n)), W.gr (W.le w1 fun b h => ?_) (same_upd n), rfl, ⟨.inr rfl, vs, upd_same, h2.to fun a o e x => ⟨same_upd n a o e, fun m => ?_⟩⟩, q1⟩⟩
    · rcases h with h | h
      · exact .inl h
      · subst h; exact .inr n
    · rcases m with m | m
      · exact x m
      · subst m; rw [n] at e; cases e⟩⟩
/-- x + y, lists -/
def fAdd {W : Wo} (ta tb : DT W) : DFt W := fun ρ ω Q => ta ρ ω fun x ω1 => tb ρ ω1 fun y ω2 => ∃ xs ys, x = .lst xs ∧ y = .lst ys ∧ xs.length + ys.length ≤ sizeLine ∧ Q (.own (xs ++ ys)) ω2
theorem df_add [Stab R] [Stab S] (ha : DX R X W a ta) (hb : DX S X W b tb) : DF X W (.BinOp a .Add b pos) (fAdd ta tb) :=
  ⟨_, pe_op op_cat ha.pe hb.pe, fun B Ex ρ ω σ H Q Q' rep q f => two rep q fun x y dx dy H2 ω2 k rp zx zy ⟨xs, ys, e1, e2, l, q2⟩ => by
    subst e1
    subst e2
    obtain ⟨p, vs, rfl, h1, h2⟩ := (Stab.bq zx).ofL
    obtain ⟨p2, vs2, rfl, g1, g2⟩ := (Stab.bq zy).ofL
    refine ⟨p, p2, vs, vs2, rfl, rfl, h1, g1, by rw [h2.length, g2.length]; exact l, fun l n => f _ _ ⟨l, .own (xs ++ ys), ω2, rfl, k.back rp.wo n, k.trans (Kp.same (same_upd n)), W.gr (W.le rp.wo fun b h => ?_) (same_upd n), rfl, ⟨.inr rfl, vs ++ vs2, upd_same, (h2.append g2).to fun a o e x => ⟨same_upd n a o e, fun m => ?_⟩⟩, q2⟩⟩
    · rcases h with h | h
      · exact .inl h
      · subst h; exact .inr n
    · rcases m with m | m
      · exact x m
      · subst m; rw [n] at e; cases e⟩
/-- [e for x in xs if t] -/
def fLc {W : Wo} (ti : DIt W) (vs : List Nat) (f : D → Rho → Option Rho) (tt : DB W) (te : DT W) : DFt W := fun ρ ω Q => ti ρ ω fun items ω1 => lcW f tt te (wipeD ρ vs) items [] ω1 fun d ω2 => ∃ ds, d = .lst ds ∧ Q (.own ds) ω2
/-- {} -/
def fD0 {W : Wo} : DFt W := fun _ ω Q => Q (.odc []) ω
theorem df_d0 : DF X W (.Dict [] [] pos) fD0 := ⟨_, pe_dnewK, fun B Ex ρ ω σ H Q Q' rep q f p n => by
  refine f _ _ ⟨p, .odc [], ω, rfl, n, Kp.same (same_upd n), W.gr (W.le rep.wo fun b h => ?_) (same_upd n), rfl, ⟨.inr rfl, [], upd_same, .nil⟩, q⟩
  rcases h with h | h
  · exact .inl h
  · subst h; exact .inr n⟩
/-- x = a new list -/
def dOwn {W : Wo} (i : Nat) (t : DFt W) : DTS W := fun D0 ρ ω => t ρ ω fun z ω' => D0.nx (ρ.set i (some z)) ω'
theorem own_end {B : Bs} {Ex : Addr → Prop} {ρ : Rho} {ω : W.Om} {σ : List (Option V)} {H : Hp} {D0 : DEnds W} {i : Nat} (rep : Rep W B Ex H σ ρ ω) {v : V} {H' : Hp} (h : PostF W Ex H (fun z ω' => D0.nx (ρ.set i (some z)) ω') v H') :
    Beh W B Ex H D0.nx (σ.set i (some v)) H' := by
  obtain ⟨a, z, ω', rfl, n, k, w, hz, ow, q⟩ := h
  have t : H' a ≠ none := by
    cases z with
    | d d => cases hz
    | own ds => obtain ⟨_, vs, e, _⟩ := ow; rw [e]; exact fun z => nomatch z
    | odc ds => obtain ⟨_, vs, e, _⟩ := ow; rw [e]; exact fun z => nomatch z
  have r := rep.shut n k w t
  exact ⟨_, _, ω', stp_shut rep n k w, r.setSl hz ow i (rep.out0 n) fun j y _ e o s => rep.noOwn n j y e o s, q⟩
theorem ds_own {tf : DFt W} {i : Nat} {x : Str} {p' : Pos} (hN : X.N.Nodup) (hi : X.N[i]? = some x) (hx : Loc X.env.scope x) (h : DF X W e tf) (hs : swapsWith e (some (.Name x p')) pos.line X.env = pure false := by rfl)
    (hf : X.fn x = true ∨ X.env.scope.names.lookup x = some .local := by first | exact .inl rfl | exact .inr rfl | assumption) : DS X W (.Assign [.Name x p'] e pos) (dOwn i tf) := by
  obtain ⟨te, h1, h2⟩ := h
  exact DS.of (ps_set hN hi hx h1 hs hf) fun B Ex ρ ω σ H D0 rep q => h2 B Ex ρ ω σ H _ _ rep q fun v H' z => own_end rep z
/-- x = [e for ..] on one line -/
theorem ds_ownLc {cl : Bool} {i : Nat} {y : Str} {py : Pos} {elt tg iter : Expr} {ifs : List Expr} {scope : Scope} {own : List (Str × Nat)} {spos : Pos} {ti : DIt W} {g : TG} {f : D → Rho → Option Rho} {tt : DB W} {te : DT W} (hc : X.calm = true) (hN : X.N.Nodup) (hy : X.N[i]? = some y) (hyl : X.env.scope.names.lookup y = some .local)
    (hsw : swapsWith (.ListComp elt [⟨tg, iter, ifs, 0⟩] scope pos) (some (.Name y py)) spos.line X.env = pure true) (hi : DI cl X W tg iter ti) (ok : BlkOk X.N X.env.scope scope own)
    (G : Gf g (own.map (·.2)) f) (hg : ∀ (s : Shared) (H : Hp) (C : Addr) (cl : List (Str × Addr)) (fp : List Addr), PG (X.blk s H scope (compEnvC scope cl C X.env) fp) tg g)
    (ht : ∃ tt', (∀ (s : Shared) (H : Hp) (C : Addr) (cl : List (Str × Addr)) (fp : List Addr), PTs (X.blk s H scope (compEnvC scope cl C X.env) fp) ifs tt') ∧
      ∀ (B : Bs) (Ex : Addr → Prop) (ρ : Rho) (ω : W.Om) (σ : List (Option V)) (H : Hp) (Q : Bool → W.Om → Prop) (Q' : Bool → Hp → Prop), Rep W B Ex H σ ρ ω → tt ρ ω Q → (∀ b ω' H', Q b ω' → Kp W H H' → W.at Ex ω' H' → Q' b H') → tt' σ H Q')
    (he : ∀ (s : Shared) (H : Hp) (C : Addr) (cl : List (Str × Addr)) (fp : List Addr), DE (X.blk s H scope (compEnvC scope cl C X.env) fp) W elt te) (hs : ∀ x, foldedSetIterable iter X.env x = pure x := by intro _; rfl) :
    DS X W (.Assign [.Name y py] (.ListComp elt [⟨tg, iter, ifs, 0⟩] scope pos) spos) (dOwn i (fLc ti (own.map (·.2)) f tt te)) := by
  obtain ⟨wi, h1, h2⟩ := hi
  obtain ⟨tt', t1, t2⟩ := ht
  refine DS.of (ps_setLc hc hN hy hyl hsw h1 ok hg t1 (fun s H C cl fp => (he s H C cl fp).pe) hs) fun B Ex ρ ω σ H D0 rep q => h2 B Ex ρ ω σ H _ _ rep q fun items ω1 J H1 S q1 k1 w1 hm _ wk D hD => ?_
  refine lc_run rep k1 w1 hm wk hD G t2 (fun B Ex ρ ω σ H Q Q' rep q f => ⟨B, Ex, ρ, ω, Q, rep, q, f⟩) q1 fun acc ds ω' H' ⟨ds', e, q'⟩ k' w' hd dl => ?_
  cases e
  exact own_end rep ⟨D, .own ds, ω', rfl, k1.back w1 hD, k', w', rfl, ⟨.inr rfl, acc, hd, dl⟩, q'⟩
/-- x.append(e) -/
def dApp {W : Wo} (i : Nat) (te : DT W) : DTS W := fun D0 ρ ω => ∃ ds, ρ[i]? = some (some (.own ds)) ∧ te ρ ω fun d ω' => ds.length < sizeLine ∧ D0.nx (ρ.set i (some (.own (ds ++ [d])))) ω'
theorem ds_app {i : Nat} {x : Str} {px pa pc : Pos} (hN : X.N[i]? = some x) (hv : Vis X.env.scope x) (h : DE X W e te) (hd : (x == ("__debug__" : Str)) = false := by decide) (hcd : (x == ("__classdict__" : Str)) = false := by decide)
    (hbase : attributeBase (.Name x px) "append" X.env (eval (.Name x px) X.env) = eval (.Name x px) X.env := by rfl)
    (hfew : ((backTo pc (starEach [e] X.env)).all (fun x => !x.1) && (backToKw pc (keywordEach [] X.env)).all (fun x => x.1.isSome) && decide ([e].length + ([] : List Keyword).length + (if ([] : List Keyword).isEmpty then 0 else 1) < 30)) = true := by rfl)
    (hline : (pa.endLine == pc.line) = true := by rfl) (hs : starEach [e] X.env = (false, eval e X.env) :: starEach [] X.env := by rfl) (hplain : (backTo pc (starEach [] X.env)).any (·.1) = false := by rfl)
    (hsw : swapsWith (.Call (.Attribute (.Name x px) "append" pa) [e] [] pc) none pos.line X.env = pure false := by rfl) :
    DS X W (.Expr (.Call (.Attribute (.Name x px) "append" pa) [e] [] pc) pos) (dApp i te) := by
  refine DS.of (ps_expr (pe_bm PySem.F.plainAttrs_list PySem.F.slot_list_append PySem.F.type_list_append mt_append (pe_var (i := i) hN hv hd hcd) (pa_cons h.pe pa_nil hs) hbase hfew hline hs hplain) hsw) fun B Ex ρ ω σ H D0 rep ⟨ds, e1, q⟩ => ?_
  obtain ⟨a, vs, g1, g2, nm, g3, g4, g5⟩ := rep.own e1
  refine ⟨_, g1, .inl ⟨rfl, vs, SqL.of g4⟩, B, Ex, ρ, ω, _, rep, q, fun d ω' v H' ⟨l, q'⟩ k w z => ?_⟩
  have r := rep.go k w
  obtain ⟨a', vs', g1', g2', _, _, g4', g5'⟩ := r.own e1
  rw [g1] at g1'
  cases g1'
  refine ⟨a, vs', v, rfl, rfl, g4', by rw [g5'.length]; exact l, ?_⟩
  have ne : ∀ b, ¬ Ex b → b ≠ a := fun b n e => n (e ▸ g2)
  obtain ⟨r2, s2⟩ := r.ownUpd (o := .lst (vs' ++ [v])) (y := .own (ds ++ [d])) e1 rfl g1 rfl g2 ⟨g2, _, upd_same, (g5'.append (.cons z .nil)).to fun b o e n => ⟨by rw [upd_ne (ne b n)]; exact e, n⟩⟩
  exact ⟨Ex, _, ω', (rep.stp k w).trans s2, r2, q'⟩
/-- from now on it is data -/
def dFrz {W : Wo} (i : Nat) (t : DTS W) : DTS W := fun D0 ρ ω => (∃ ds, ρ[i]? = some (some (.own ds)) ∧ t D0 (ρ.set i (some (.d (.lst ds)))) ω) ∨ ∃ ds, ρ[i]? = some (some (.odc ds)) ∧ t D0 (ρ.set i (some (.d (.dic ds)))) ω
theorem dss_frz (i : Nat) (h : DSs X W sts t) : DSs X W sts (dFrz i t) := ⟨fun pins s σ H B Ex ρ ω D0 I rep q => by
  rcases q with ⟨ds, e, q⟩ | ⟨ds, e, q⟩
  · obtain ⟨Ex', r, s'⟩ := rep.frz e
    exact thn (h.run pins s σ H B Ex' _ ω D0 I r q) fun f s2 z => SP.le (ends_le s') z
  · obtain ⟨Ex', r, s'⟩ := rep.frzK e
    exact thn (h.run pins s σ H B Ex' _ ω D0 I r q) fun f s2 z => SP.le (ends_le s') z⟩
/-- a name is forgotten -/
theorem ds_frz {st : Stmt} (i : Nat) (h : DS X W st t) : DS X W st (dFrz i t) := ⟨fun pins s σ H B Ex ρ ω D0 I rep q => by
  rcases q with ⟨ds, e, q⟩ | ⟨ds, e, q⟩
  · obtain ⟨Ex', r, s'⟩ := rep.frz e
    exact thn (h.run pins s σ H B Ex' _ ω D0 I r q) fun f s2 z => SP.le (ends_le s') z
  · obtain ⟨Ex', r, s'⟩ := rep.frzK e
    exact thn (h.run pins s σ H B Ex' _ ω D0 I r q) fun f s2 z => SP.le (ends_le s') z⟩
/-- a, b = e1, e2 -/
def dPar {W : Wo} (i j : Nat) (ta tb : DT W) : DTS W := fun D0 ρ ω => ta ρ ω fun x ω1 => tb ρ ω1 fun y ω2 => D0.nx ((ρ.set i (some (.d x))).set j (some (.d y))) ω2
theorem ds_par {i j : Nat} {x y : Str} {px py pt : Pos} {kt k2 pt2} (hc : X.calm = true) (hN : X.N.Nodup) (hi : X.N[i]? = some x) (hj : X.N[j]? = some y) (hij : i ≠ j)
    (hx : X.env.scope.names.lookup x = some .local) (hy : X.env.scope.names.lookup y = some .local) (ha : DE X W a ta) (hb : DE X W b tb)
    (hw : swappedStores [.Tuple [.Name x px, .Name y py] kt pt] (.Tuple [a, b] k2 pt2) X.env = pure (some [x, y])) (he : starEach [a, b] X.env = (false, eval a X.env) :: starEach [b] X.env := by rfl) (he2 : starEach [b] X.env = (false, eval b X.env) :: starEach [] X.env := by rfl)
    (hs : swapsWithSole [.Tuple [.Name x px, .Name y py] kt pt] (.Tuple [a, b] k2 pt2) pos.line X.env = pure false := by rfl) :
    DS X W (.Assign [.Tuple [.Name x px, .Name y py] kt pt] (.Tuple [a, b] k2 pt2) pos) (dPar i j ta tb) :=
  DS.of (ps_par hc hN hi hj hij hx hy (pa_cons ha.pe (pa_cons hb.pe pa_nil he2) he) hw hs) fun B Ex ρ ω σ H D0 rep q => two rep q fun x y dx dy H2 ω2 k rp zx zy q2 =>
    ⟨x, y, rfl, Ex, _, ω2, rep.stp k rp.wo, (rp.set zx i).set zy j, q2⟩
/-- target = e -/
def dAsg {W : Wo} (f : D → Rho → Option Rho) (te : DT W) : DTS W := fun D0 ρ ω => te ρ ω fun d ω' => ∃ ρ', f d ρ = some ρ' ∧ D0.nx ρ' ω'
theorem ds_asg {tg : Expr} {g : TG} {f : D → Rho → Option Rho} {vs : List Nat} (G : Gf g vs f) (hg : PG X tg g) (h : DE X W e te) (hs : swapsWithSole [tg] e pos.line X.env = pure false := by rfl) (hw : swappedStores [tg] e X.env = pure none := by rfl)
    (h1 : (assignEach [tg] X.env).map (·.2) = [assign tg X.env] := by rfl) : DS X W (.Assign [tg] e pos) (dAsg f te) :=
  DS.of (ps_asg h.pe hg hs hw h1) fun B Ex ρ ω σ H D0 rep q => ⟨B, Ex, ρ, ω, _, rep, q, fun d ω' v H' ⟨ρ', e, q'⟩ k w z => G.run (rep.go k w) z e fun σ' r _ => ⟨Ex, ρ', ω', rep.stp k w, r, q'⟩⟩
/-- for -/
def forW {W : Wo} (f : D → Rho → Option Rho) (tb : DTS W) (D0 : DEnds W) : List D → Rho → W.Om → Prop
  | [], ρ, ω => D0.nx ρ ω
  | x :: xs, ρ, ω => ∃ ρ', f x ρ = some ρ' ∧ tb { D0 with nx := forW f tb D0 xs, ct := forW f tb D0 xs, bk := D0.nx } ρ' ω
def dFor {W : Wo} (ti : DIt W) (f : D → Rho → Option Rho) (tb : DTS W) : DTS W := fun D0 ρ ω => ti ρ ω fun items ω1 => forW f tb D0 items ρ ω1
theorem ds_for {tg iter : Expr} {body : List Stmt} {ti : DIt W} {g : TG} {f : D → Rho → Option Rho} {vs : List Nat} {tb : DTS W} (hp : PassesOwn (model X.prog X.w) X.A X.env X.xe) (hc : X.calm = true) (hi : DI true X W tg iter ti) (G : Gf g vs f) (hg : PG X tg g) (hb : DSs X W body tb)
    (hs : ∀ x, foldedSetIterable iter X.env x = pure x := by intro _; rfl) : DS X W (.For tg iter body [] pos) (dFor ti f tb) := by
  obtain ⟨wi, h1, h2⟩ := hi
  refine DS.of (ps_for hp hc h1 hg hb.pss hs) fun B Ex ρ ω σ H D0 rep q => h2 B Ex ρ ω σ H _ _ rep q fun items ω1 J H1 S q1 k1 w1 hm hcl wk => ?_
  have r1 := rep.go k1 w1
  have agr : ∀ {Ex' H'}, Stp Ex H1 Ex' H' → Agr S H1 H' := fun s b o e sb => s.kp b o e (hcl rfl b sb)
  refine ⟨fun i m σ' H' => m = items.length - i ∧ i ≤ items.length ∧ ∃ Ex' ρ' ω', Stp Ex H1 Ex' H' ∧ Rep W B Ex' H' σ' ρ' ω' ∧ forW f tb D0 (items.drop i) ρ' ω', ⟨items.length, by simp, Nat.zero_le _, Ex, ρ, ω1, Stp.refl, r1, by simpa using q1⟩, ?_⟩
  rintro i m σ2 H2 ⟨rfl, hi, Ex2, ρ2, ω2, s2, r2, q2⟩
  by_cases hlt : i < items.length
  · refine .inr ⟨wk.goes i H2 hlt (agr s2), fun σ' H' => ∃ Ex' ρ' ω', Stp Ex H1 Ex' H' ∧ Rep W B Ex' H' σ' ρ' ω' ∧ forW f tb D0 (items.drop (i + 1)) ρ' ω', fun σ' H' p => ⟨_, by omega, rfl, hlt, p⟩, fun x H3 y => ?_⟩
    obtain ⟨sm, d, hd, dq⟩ := wk.yields i H2 x H3 Ex2 hlt (agr s2) r2.tr s2.out y
    have r3 := r2.grow sm
    have s3 : Stp Ex H1 Ex2 H3 := s2.trans (r2.stp (Kp.same sm) r3.wo)
    have ed : items.drop i = d :: items.drop (i + 1) := by
      rw [List.drop_eq_getElem_cons hlt]
      have : items[i] = d := by
        rw [List.getElem?_eq_getElem hlt] at hd
        exact Option.some.inj hd
      rw [this]
    rw [ed] at q2
    obtain ⟨ρ', ef, q3⟩ := q2
    refine G.run r3 dq ef fun σ' rs _ => ?_
    refine ⟨B, Ex2, ρ', ω2, _, rs, q3, ⟨fun σ4 H4 ⟨E4, ρ4, ω4, a, b, c⟩ => ⟨E4, ρ4, ω4, s3.trans a, b, c⟩, fun v H4 z => z, fun σ4 H4 ⟨E4, ρ4, ω4, a, b, c⟩ => ⟨E4, ρ4, ω4, (rep.stp k1 w1).trans (s3.trans a), b, c⟩, fun σ4 H4 ⟨E4, ρ4, ω4, a, b, c⟩ => ⟨E4, ρ4, ω4, s3.trans a, b, c⟩⟩⟩
  · have e : i = items.length := by omega
    subst e
    have e0 : items.drop items.length = [] := List.drop_length
    rw [e0] at q2
    exact .inl ⟨wk.stops H2 (agr s2), Ex2, ρ2, ω2, (rep.stp k1 w1).trans s2, r2, q2⟩
end

/-! ## a def -/
def startD (N : List Str) (ds : List D) : Rho := ds.map (fun d => some (.d d)) ++ List.replicate (N.length - ds.length) none
theorem rep_start {W : Wo} {N : List Str} {Ex : Addr → Prop} {H : Hp} {vs : List V} {ds : List D} {ω : W.Om} (w : W.at Ex ω H) (mu : ∀ a, W.Mu a → Ex a) (tr : ∀ a, Ex a → H a ≠ none) (q : DqL H Ex vs ds) (bb : W.bb ⟨H, Ex⟩ Ex H) : Rep W ⟨H, Ex⟩ Ex H (L2.start N vs) (startD N ds) ω where
  wo := w
  mu := mu
  sub := fun _ h => h
  out := fun _ h => .inl h
  tr0 := tr
  tr := tr
  kp := Kp.refl
  len := by unfold L2.start startD; simp [q.length]
  sl := fun i z e => by
    unfold startD at e
    have hi : i < ds.length := by
      by_cases hi : i < ds.length
      · exact hi
      · rw [List.getElem?_append_right (by simpa using hi), List.getElem?_replicate] at e
        split at e <;> cases e
    rw [List.getElem?_append_left (by simpa using hi), List.getElem?_map] at e
    cases ed : ds[i]? with
    | none => rw [ed] at e; cases e
    | some d =>
      rw [ed] at e
      cases e
      obtain ⟨v, h1, h2⟩ := q.get ed
      refine ⟨some v, ?_, h2⟩
      unfold L2.start
      rw [List.getElem?_append_left (by rw [List.length_map, q.length]; exact hi), List.getElem?_map, h1]
      rfl
  dis := fun i j z y a e1 e2 o1 o2 s1 s2 => by
    unfold startD at e1
    by_cases hi : i < ds.length
    · rw [List.getElem?_append_left (by simpa using hi), List.getElem?_map] at e1
      cases ed : ds[i]? with
      | none => rw [ed] at e1; cases e1
      | some d => rw [ed] at e1; cases e1; cases o1
    · rw [List.getElem?_append_right (by simpa using hi), List.getElem?_replicate] at e1
      split at e1 <;> cases e1
  ofr := fun i z a e1 o1 s1 => by
    unfold startD at e1
    by_cases hi : i < ds.length
    · rw [List.getElem?_append_left (by simpa using hi), List.getElem?_map] at e1
      cases ed : ds[i]? with
      | none => rw [ed] at e1; cases e1
      | some d => rw [ed] at e1; cases e1; cases o1
    · rw [List.getElem?_append_right (by simpa using hi), List.getElem?_replicate] at e1
      split at e1 <;> cases e1
  bb := bb
/-- a def of the text, by its body read over data -/
theorem okD {P : Program} {w : World} {K : PySem.W.Frag} {mg : Str → Option Value} {base : Heap} {W : Wo} [Free W] {x qual : Str} {st : Stmt} {f : Addr} {fd : FuncData} {N ps : List Str} {k : Nat} {S : Spd W} (F : Fun K x qual st f fd) (C : FnScope N ps (defScope st))
    (len : ∀ ds ω Q, S ds ω Q → ds.length = ps.length)
    (hbody : ∀ (cdv : Value) (A : Around) (outer : List Env) (s : Shared) (H : Hp) (E : XK) (ds : List D) (ω : W.Om) (Q : D → W.Om → Prop), Gd A → Room k (A.deeper (envOfC qual (defScope st) s.heap.objs.size f cdv)) → S ds ω Q →
      ∃ t, DSs (cxOf CX0 P w K mg base N qual (defScope st) f cdv A outer s H E).nox W (defBody st) t ∧ t { nx := fun _ ω' => Q .non ω', rt := Q } (startD N ds) ω) :
    FnG P w K mg base CX0 (k + 1) f fd ps (spOf W S) := by
  refine okG F C (fun vs H Q E ⟨Ex, ω, ds, Q0, _, _, _, q, h, _⟩ => by rw [q.length]; exact len _ _ _ h) fun cdv A outer s H vs Q E g hr ⟨Ex, ω, ds, Q0, wo, mu, tr, q, h, fin⟩ => ?_
  obtain ⟨t, h1, h2⟩ := hbody cdv A outer s H E ds ω Q0 g hr h
  refine ⟨_, h1.pss, ⟨H, Ex⟩, Ex, _, ω, _, rep_start wo mu tr q (Free.bb _ _ _), h2, ⟨fun σ' H' ⟨Ex', ρ', ω', s, r, z⟩ => ?_, fun v H' ⟨d, ω', k, w, z, q'⟩ => fin d ω' v H' q' k w z, fun σ' H' ⟨_, _, _, _, _, z⟩ => z.elim, fun σ' H' ⟨_, _, _, _, _, z⟩ => z.elim⟩⟩
  exact fin .non ω' .non H' z r.kp (W.le r.wo fun b m => .inl (r.sub b m)) .non
end Tk

namespace Tk
open PySem PySem.Spec PyProof.Rows L2

/-! ## text * number -/
theorem mulOk_small {x : Str} {n : Int} (h1 : 1 ≤ n) (h2 : n ≤ 1000) (h3 : x.length ≤ 1000) : MulOk x n := by
  refine ⟨by rw [decide_eq_false (by omega), decide_eq_false (by omega)]; rfl, fun _ _ h => ?_, fun _ _ => ?_⟩
  · have h4 : (1000 : Int) ≤ (2 ^ 63 - 1) / n := by
      refine (Int.le_ediv_iff_mul_le (by omega)).mpr ?_
      omega
    omega
  · unfold Builtin.Str.tooLong
    have h5 : x.length * n.toNat ≤ 1000 * 1000 := Nat.mul_le_mul h3 (by omega)
    simp [sizeLine_eq]
    omega
def mulD2 : D → D → Option D
  | .str x, .int n => if 1 ≤ n ∧ n ≤ 1000 ∧ x.length ≤ 1000 then some (.str (Txt.mul x n)) else none
  | x, y => mulD x y
section
variable {X : Cx} {W : Wo}
theorem op_mul_str : OpR X (binaryOp .Mult) (fun x y H Q => ∃ z n, x = .str z ∧ y = .int n ∧ (1 ≤ n ∧ n ≤ 1000 ∧ z.length ≤ 1000) ∧ Q (.str (Txt.mul z n)) H) := by
  intro pins s σ H x y v u Q I rx ry h
  obtain ⟨z, n, rfl, rfl, ⟨h1, h2, h3⟩, q⟩ := h
  obtain ⟨t, rfl⟩ := rx
  obtain ⟨t', rfl⟩ := ry
  exact SB.mul (mulOk_small h1 h2 h3) fun t'' k => ⟨.str _, H, I.tok _, ⟨_, rfl⟩, q⟩
theorem o_mul2 : Op2 X W (binaryOp .Mult) mulD2 := by
  obtain ⟨r, h1, h2⟩ := (o_mul : Op2 X W (binaryOp .Mult) mulD)
  refine ⟨_, op_mul_str.or h1, ?_⟩
  intro H Ex x y dx dy z Q tr hx hy e k
  unfold mulD2 at e
  split at e
  · split at e
    · cases e; exact .inl ⟨_, _, hx.ofS, hy.ofI, by assumption, k _ _ (Same.refl H) (.str _)⟩
    · cases e
  · exact .inr (h2 tr hx hy e k)
end
/-! ## dict displays -/
section
variable {X : Cx} {W : Wo} {pos : Pos} {e v : Expr} {te : DT W} {tl : DA W}
/-- {}, as data -/
def dD0 {W : Wo} : DT W := fun _ ω Q => Q (.dic []) ω
theorem de_d0 : DE X W (.Dict [] [] pos) dD0 := DX.of pe_dnewK fun B Ex ρ ω σ H Q rep q p n =>
  ⟨_, ω, Kp.same (same_upd n), W.gr rep.wo (same_upd n), .dic upd_same (rep.new n) .nil, q⟩
/-- the pairs of a display with written texts as keys -/
structure DPs (X : Cx) (W : Wo) (pos : Pos) (keys : List (Option Expr)) (values : List Expr) (ks : List Str) (t : DA W) : Prop where
  ex : ∃ trs, PPs X pos keys values trs ∧ ∀ (B : Bs) (Ex : Addr → Prop) (ρ : Rho) (ω : W.Om) (σ : List (Option V)) (H : Hp) (Q : List D → W.Om → Prop) (Q' : List (V × V) → Hp → Prop), Rep W B Ex H σ ρ ω → t ρ ω Q →
    (∀ ds ω' vs H', Q ds ω' → Kp W H H' → W.at Ex ω' H' → DqL H' Ex vs ds → vs.length = ks.length → Q' ((ks.map V.str).zip vs) H') → tPairs trs σ H Q'
theorem dps_nil : DPs X W pos [] [] [] dNil := ⟨_, pps_nil, fun B Ex ρ ω σ H Q Q' rep q f => f [] ω [] H q Kp.refl rep.wo .nil rfl⟩
theorem dps_cons {k : Str} {j : Nat} {kp : Pos} {keys : List (Option Expr)} {values : List Expr} {ks : List Str} (h : DE X W v te) (h2 : DPs X W pos keys values ks tl) : DPs X W pos (some (.Constant (.str k) j kp) :: keys) (v :: values) (k :: ks) (dCons te tl) := by
  obtain ⟨trs, p1, p2⟩ := h2
  refine ⟨_, pps_cons pe_str h.pe p1, fun B Ex ρ ω σ H Q Q' rep q f => ?_⟩
  refine ⟨B, Ex, ρ, ω, _, rep, q, fun d ω1 v H1 q1 k1 w1 z1 => p2 B Ex ρ ω1 σ H1 _ _ (rep.go k1 w1) q1 fun ds ω2 vs H2 q2 k2 w2 z2 hl => ?_⟩
  exact f (d :: ds) ω2 (v :: vs) H2 q2 (k1.trans k2) w2 (.cons ((rep.go k1 w1).keep k2 z1) z2) (congrArg Nat.succ hl)
def mkD (ks : List Str) (ds : List D) : List (Key × D) := (ks.zip ds).map fun p => (Sum.inr p.1, p.2)
theorem merge_app : ∀ (more acc : List (Key × V)), ((acc ++ more).map (·.1)).Nodup → mergeK acc more = acc ++ more
  | [], acc, _ => by rw [List.append_nil]; rfl
  | kv :: more, acc, h => by
    have hn : valV acc kv.1 = none := by
      have h1 : kv.1 ∉ acc.map (·.1) := by
        rw [List.map_append, List.nodup_append] at h
        intro m
        exact h.2.2 _ m _ (List.mem_cons_self ..) rfl
      have h2 : (acc.any fun q => decide (q.1 = kv.1)) = false := by
        rw [List.any_eq_false]
        intro q hq
        simp only [decide_eq_true_eq]
        intro e
        exact h1 (List.mem_map.mpr ⟨q, hq, e⟩)
      rw [valV_any] at h2
      cases z : valV acc kv.1 with
      | none => rfl
      | some y => rw [z] at h2; cases h2
    have e : mergeK acc (kv :: more) = mergeK (putK acc kv.1 kv.2) more := rfl
    rw [e, putK_new _ hn, merge_app more (acc ++ [(kv.1, kv.2)]) (by simpa using h)]
    simp
theorem dqk_mk {H : Hp} {Ex : Addr → Prop} : ∀ (ks : List Str) {vs : List V} {ds : List D}, DqL H Ex vs ds → DqK H Ex ((ks.zip vs).map fun p => ((Sum.inr p.1 : Key), p.2)) (mkD ks ds)
  | [], _, _, _ => .nil
  | _ :: _, _, _, .nil => .nil
  | k :: ks, _, _, .cons h t => .cons h (dqk_mk ks t)
theorem zip_keys : ∀ (ks : List Str) (vs : List V), (((ks.zip vs).map fun q => ((Sum.inr q.1 : Key), q.2)).map fun kv => (kV kv.1, kv.2)) = (ks.map V.str).zip vs
  | [], _ => rfl
  | _ :: _, [] => rfl
  | k :: ks, v :: vs => congrArg _ (zip_keys ks vs)
theorem nodup_inr : ∀ {ks : List Str}, ks.Nodup → (ks.map (Sum.inr : Str → Key)).Nodup
  | [], _ => List.nodup_nil
  | k :: ks, h => by
    rw [List.nodup_cons] at h
    rw [List.map_cons, List.nodup_cons]
    refine ⟨fun m => ?_, nodup_inr h.2⟩
    obtain ⟨x, hx, e⟩ := List.mem_map.mp m
    cases e
    exact h.1 hx
def dDisp {W : Wo} (ks : List Str) (tl : DA W) : DT W := fun ρ ω Q => tl ρ ω fun ds ω' => Q (.dic (mkD ks ds)) ω'
theorem de_disp {keys : List (Option Expr)} {values : List Expr} {ks : List Str} (h : DPs X W pos keys values ks tl) (hn : ks.Nodup) (hall : keys.all (·.isSome) = true) (hl : keys.length = values.length) (h0 : keys ≠ []) (h15 : keys.length ≤ 15) (hk : ks.length ≤ 15 := by decide) :
    DE X W (.Dict keys values pos) (dDisp ks tl) := by
  obtain ⟨trs, p1, p2⟩ := h
  refine DX.of (pe_disp p1 hall hl h0 h15) fun B Ex ρ ω σ H Q rep q p n => ?_
  have nE : ¬ Ex p := rep.new n
  have rp := rep.alloc n (.dK [])
  refine p2 B _ ρ ω σ _ _ _ rp q fun ds ω' vs H' q' k w z hlen => ?_
  have nMu : ¬ W.Mu p := fun m => W.tk rep.wo m n
  have hp : H' p = some (.dK []) := k p _ upd_same nMu
  refine ⟨hp, (ks.zip vs).map fun q => ((Sum.inr q.1 : Key), q.2), ?_, ?_, ?_⟩
  · exact (zip_keys ks vs).symm
  · rw [List.length_map, List.length_zip]
    omega
  · have em : mergeK [] ((ks.zip vs).map fun q => ((Sum.inr q.1 : Key), q.2)) = (ks.zip vs).map fun q => ((Sum.inr q.1 : Key), q.2) := by
      rw [merge_app]
      · rfl
      · rw [List.nil_append, List.map_map]
        have e1 : ((ks.zip vs).map (Prod.fst ∘ fun q => ((Sum.inr q.1 : Key), q.2))) = ks.map Sum.inr := by
          have : (Prod.fst ∘ fun q : Str × V => ((Sum.inr q.1 : Key), q.2)) = Sum.inr ∘ Prod.fst := rfl
          rw [this, ← List.map_map, List.map_fst_zip (by omega)]
        rw [e1]
        exact nodup_inr hn
    rw [em]
    have r2 := rp.go k w
    have ne : ∀ a, ¬ (Ex a ∨ a = p) → a ≠ p := fun a x e => x (.inr e)
    have k2 : Kp W H (upd H' p (.dK ((ks.zip vs).map fun q => ((Sum.inr q.1 : Key), q.2)))) := fun b o e m => by
      rw [upd_ne (ne_of_none e n)]
      exact k b o (same_upd n b o e) m
    have w2 : W.at (fun b => Ex b ∨ b = p) ω' (upd H' p (.dK ((ks.zip vs).map fun q => ((Sum.inr q.1 : Key), q.2)))) := W.grow w fun b o e m => by
      have : b ≠ p := fun e => m ⟨.inr e, by subst e; exact nMu⟩
      rw [upd_ne this]
      exact e
    exact ⟨_, ω', k2, W.le w2 fun b m => .inl (.inl m), .dic upd_same nE (dqk_mk ks (z.to fun a o e x => ⟨by rw [upd_ne (ne a x)]; exact e, fun m => x (.inl m)⟩)), q'⟩
end
/-! ## comprehensions as data -/
section
variable {X : Cx} {W : Wo} {st : Stmt} {c : Expr} {t : DFt W} {tb : DB W}
def dLcS {W : Wo} (i : Nat) (t : DFt W) : DTS W := fun D0 ρ ω => t ρ ω fun z ω' => ∃ ds, z = .own ds ∧ i < ρ.length ∧ D0.nx (ρ.set i (some (.d (.lst ds)))) ω'
theorem ds_frzLc (i : Nat) (h : DS X W st (dOwn i t)) : DS X W st (dLcS i t) := ⟨fun pins s σ H B Ex ρ ω D0 I rep q => by
  refine thn (h.run pins s σ H B Ex ρ ω { D0 with nx := fun ρ' ω' => ∃ ds, ρ'[i]? = some (some (.own ds)) ∧ D0.nx (ρ'.set i (some (.d (.lst ds)))) ω' } I rep ?_) fun f s' z => ?_
  · show t ρ ω _
    have : (fun (z : Sl) (ω' : W.Om) => ∃ ds, z = .own ds ∧ i < ρ.length ∧ D0.nx (ρ.set i (some (.d (.lst ds)))) ω') = fun z ω' => ∃ ds, z = .own ds ∧ i < ρ.length ∧ D0.nx (ρ.set i (some (.d (.lst ds)))) ω' := rfl
    exact cast (congrArg (t ρ ω) (by
      funext z ω'
      apply propext
      constructor
      · rintro ⟨ds, rfl, hl, q⟩
        exact ⟨ds, by rw [List.getElem?_set_self hl], by rw [List.set_set]; exact q⟩
      · rintro ⟨ds, e, q⟩
        have hl : i < ρ.length := by
          by_cases hl : i < ρ.length
          · exact hl
          · rw [List.getElem?_eq_none (by simpa using hl)] at e
            cases e
        rw [List.getElem?_set_self hl] at e
        cases e
        rw [List.set_set] at q
        exact ⟨ds, rfl, hl, q⟩)) q
  · refine SP.le (E := ends W B Ex H { D0 with nx := fun ρ' ω' => ∃ ds, ρ'[i]? = some (some (.own ds)) ∧ D0.nx (ρ'.set i (some (.d (.lst ds)))) ω' }) (F := ends W B Ex H D0) (ELe.mk (fun σ' H' hh => ?_) (fun _ _ h => h) (fun _ _ h => h) (fun _ _ h => h)) z
    obtain ⟨Ex', ρ', ω', s1, r, ds, e, q⟩ := hh
    obtain ⟨Ex2, r2, s2⟩ := r.frz e
    exact ⟨Ex2, _, ω', s1.trans s2, r2, q⟩⟩
theorem ts_nil {sc : Scope} : ∃ tt', (∀ (s : Shared) (H : Hp) (C : Addr) (cl : List (Str × Addr)) (fp : List Addr), PTs (X.blk s H sc (compEnvC sc cl C X.env) fp) [] tt') ∧
      ∀ (B : Bs) (Ex : Addr → Prop) (ρ : Rho) (ω : W.Om) (σ : List (Option V)) (H : Hp) (Q : Bool → W.Om → Prop) (Q' : Bool → Hp → Prop), Rep W B Ex H σ ρ ω → dYes ρ ω Q → (∀ b ω' H', Q b ω' → Kp W H H' → W.at Ex ω' H' → Q' b H') → tt' σ H Q' :=
  ⟨_, fun _ _ _ _ _ => pts_nil, fun B Ex ρ ω σ H Q Q' rep q f => f true ω H q Kp.refl rep.wo⟩
theorem ts_one {sc : Scope} (h : ∀ (s : Shared) (H : Hp) (C : Addr) (cl : List (Str × Addr)) (fp : List Addr), DP (X.blk s H sc (compEnvC sc cl C X.env) fp) W c tb) : ∃ tt', (∀ (s : Shared) (H : Hp) (C : Addr) (cl : List (Str × Addr)) (fp : List Addr), PTs (X.blk s H sc (compEnvC sc cl C X.env) fp) [c] tt') ∧
      ∀ (B : Bs) (Ex : Addr → Prop) (ρ : Rho) (ω : W.Om) (σ : List (Option V)) (H : Hp) (Q : Bool → W.Om → Prop) (Q' : Bool → Hp → Prop), Rep W B Ex H σ ρ ω → tb ρ ω Q → (∀ b ω' H', Q b ω' → Kp W H H' → W.at Ex ω' H' → Q' b H') → tt' σ H Q' :=
  ⟨_, fun s H C cl fp => pts_one (h s H C cl fp).pt, fun B Ex ρ ω σ H Q Q' rep q f => ⟨B, Ex, ρ, ω, Q, rep, q, f⟩⟩
end
/-- a world that is found on the way -/
theorem pss_any {X : Cx} {sts : List Stmt} {ι : Type} {Wf : ι → Wo} {t : ∀ i, DTS (Wf i)} (h : ∀ i, DSs X (Wf i) sts (t i)) : PSs X sts (fun D σ H => ∃ i, tS (Wf i) (t i) D σ H) :=
  ⟨fun pins s σ H D I ⟨i, q⟩ => (h i).pss.run pins s σ H D I q⟩
/-! ## defs with defaults -/
theorem okDd {P : Program} {w : World} {K : PySem.W.Frag} {mg : Str → Option Value} {base : Heap} {W : Wo} [Free W] {x qual : Str} {params : Arguments} {body : List Stmt} {scope : Scope} {dvs : List V} {kws : List (Str × V)} {f : Addr} {fd : FuncData} {N ps : List Str} {k : Nat} {S : Spd W}
    (F : FunD K x qual params body scope dvs kws f fd) (C : FnScope N ps scope) (len : ∀ ds ω Q, S ds ω Q → ds.length = ps.length)
    (hbody : ∀ (cdv : Value) (A : Around) (outer : List Env) (s : Shared) (H : Hp) (E : XK) (ds : List D) (ω : W.Om) (Q : D → W.Om → Prop), Gd A → Room k (A.deeper (envOfC qual scope s.heap.objs.size f cdv)) → S ds ω Q →
      ∃ t, DSs (cxOf CX0 P w K mg base N qual scope f cdv A outer s H E).nox W body t ∧ t { nx := fun _ ω' => Q .non ω', rt := Q } (startD N ds) ω) :
    FnG P w K mg base CX0 (k + 1) f fd ps (spOf W S) := by
  obtain ⟨oc, od, dV, kV, doc, pm, an, cdv, ct, osl, e, lk, hcd, _, _⟩ := F.ex
  subst e
  refine fnG_of lk hcd C (fun vs H Q E ⟨Ex, ω, ds, Q0, _, _, _, q, h, _⟩ => by rw [q.length]; exact len _ _ _ h) ?_
  intro A outer s H vs Q E g hr ⟨Ex, ω, ds, Q0, wo, mu, tr, q, h, fin⟩
  obtain ⟨t, h1, h2⟩ := hbody cdv A outer s H E ds ω Q0 g hr h
  refine ⟨_, h1.pss.nox, ⟨H, Ex⟩, Ex, _, ω, _, rep_start wo mu tr q (Free.bb _ _ _), h2, ⟨fun σ' H' ⟨Ex', ρ', ω', s, r, z⟩ => ?_, fun v H' ⟨d, ω', k, w, z, q'⟩ => fin d ω' v H' q' k w z, fun σ' H' ⟨_, _, _, _, _, z⟩ => z.elim, fun σ' H' ⟨_, _, _, _, _, z⟩ => z.elim⟩⟩
  exact fin .non ω' .non H' z r.kp (W.le r.wo fun b m => .inl (r.sub b m)) .non

/-! ## a def as it is called -/
/-- a def of the module: where it stands, its body, how its arguments bind -/
structure Df (K : PySem.W.Frag) (mg : Str → Option Value) (x : Str) (st : Stmt) (ps : List Str) (f : Addr) (fd : FuncData) : Prop where
  F : Fun K x x st f fd
  m : mg x = some (.ref f)
  b : Binds K fd ps []
/-! ## the law's end -/
/-- the law's def, where no repr is running -/
theorem law_callG {P : Program} {w : World} {K : PySem.W.Frag} {mg mb : Str → Option Value} {k : Nat} {fa a : Addr} {fd : FuncData} {x : Str} {sp : Sp} {s1 : Shared} {vs : List Value} {ns : List Int}
    (KX : K.In s1.heap) (hns : s1.heap.Ns mainGlobals mg) (hb : s1.heap.Ns builtinsNs mb) (hbb : ∀ x : Str, x ≠ "__name__" → mb x = bootBuiltins x) (hlim : s1.heap.NoLimit) (hsy : ∃ mm, s1.heap.Ns sysModules mm) (hg : s1.gens = #[])
    (ha : s1.heap.get? a = some { cls := .type "list", data := .seq vs.toArray }) (hi : IntsAre vs ns) (hl : ns.length ≤ sizeLine) (hr : Room k callerA)
    (F : ∀ base : Heap, K.In base → base.Ns mainGlobals mg → BaseS base → FnG P w K mg base CX0 k fa fd [x] sp) (hbind : ∀ (s : Shared) (u : Value), BindsTo s fd ⟨[u], []⟩ [(x, u)])
    (hsp : ∀ H : Hp, Only H → SqL K H a (ns.map V.int) → sp [.ref a] H (fun v _ => v = .bl true) fun _ _ _ => False) :
    codeAny (model P w) callerA (.call (.ref fa) ⟨[.ref a], []⟩) (fun r s' => r = .ok (.ret (.bool true)) ∧ OldK s1.heap s'.heap ∧ s'.os = s1.os ∧ AllBare s'.gens) s1 := by
  have rv := vals_ints hi
  have lenV := hi.length
  have main : ∀ H : Hp, Only H → SqL K H a (ns.map V.int) → HOk P w H s1.heap → (∀ b, H b ≠ none → b = a) → (H a ≠ none → K.lookup a = none) →
      codeAny (model P w) callerA (.call (.ref fa) ⟨[.ref a], []⟩) (fun r s' => r = .ok (.ret (.bool true)) ∧ OldK s1.heap s'.heap ∧ s'.os = s1.os ∧ AllBare s'.gens) s1 := by
    intro H hO hS hok hA hK
    have onlyA : ∀ {b : Addr}, b ≠ a → H b = none := fun {b} nb => by
      cases q : H b with
      | none => rfl
      | some u => exact absurd (hA b (by rw [q]; exact fun z => nomatch z)) nb
    have dictsFree : ∀ {b : Addr} {o : Obj} {es : Array DictEntry} {ep : Nat}, s1.heap.get? b = some o → o.data = .dict es ep → H b = none := fun {b o es ep} e d => onlyA fun z => by
      subst z
      rw [ha] at e
      cases e
      have d' : Data.seq vs.toArray _ = Data.dict es ep := d
      cases d'
    have nsB : ∀ {b : Addr} {m : Str → Option Value}, s1.heap.Ns b m → (hidT s1.heap H).Ns b m := fun {b m} ⟨o, es, ep, e, d, r⟩ => ⟨o, es, ep, hidT_get e (dictsFree e d), d, r⟩
    have inB : K.In (hidT s1.heap H) := fun b o e => hidT_get (KX b o e) (by
      cases q : H b with
      | none => rfl
      | some u =>
        have z := hA b (by rw [q]; exact fun z => nomatch z)
        subst z
        rw [hK (by rw [q]; exact fun z => nomatch z)] at e
        cases e)
    have hM : Mod K mg (hidT s1.heap H) := ⟨inB, nsB hns, ⟨mb, nsB hb, hbb⟩, by obtain ⟨mc, h1, h2⟩ := hlim; exact ⟨mc, nsB h1, h2⟩⟩
    have hS2 : BaseS (hidT s1.heap H) := by
      obtain ⟨mm, h⟩ := hsy
      obtain ⟨o, es, ep, e, _⟩ := nsB h
      exact ⟨o, e⟩
    have e0 : Env0 P w K mg (hidT s1.heap H) callerA [] s1 H :=
      ⟨rfl, hM, fun b o e => of_hidT e, Nat.le_of_eq (hidT_size _ _), trivial, fun b z => absurd (show b ∈ ([] : List Addr) from z) List.not_mem_nil, hok, .of_eq hg⟩
    have go := (F _ inB (nsB hns) hS2).run callerA [] s1 H ⟨[.ref a], []⟩ [.ref a] [.ref a] _ _ rfl hr e0 (hbind s1 (.ref a)) (.cons rfl .nil) (hsp H hO hS)
    refine codeAny_mono go ?_
    intro r s' h
    match r, h with
    | .error e, h => exact False.elim h
    | .ok .next, h => exact False.elim h
    | .ok .brk, h => exact False.elim h
    | .ok .cont, h => exact False.elim h
    | .ok (.ret u), h =>
      obtain ⟨v, H', os, bare, un, hok', r', q⟩ := h
      have ev : v = .bl true := q
      subst ev
      have eu : u = Value.bool true := r'
      subst eu
      refine ⟨rfl, OldK.of_keep fun b o e => ?_, os, bare⟩
      cases q : H b with
      | none => exact un.keep b o e q (fun z => absurd (show b ∈ ([] : List Addr) from z) List.not_mem_nil) List.not_mem_nil
      | some u =>
        rcases hO b with z | ⟨ob, xs, z⟩
        · rw [q] at z; cases z
        · obtain ⟨e1, _⟩ := hok b _ z
          obtain ⟨e2, _⟩ := hok' b _ (un.frzs b ob _ z)
          rw [e] at e1
          cases e1
          exact e2
  cases hk : K.lookup a with
  | some o =>
    have e := KX a o hk
    rw [ha] at e
    cases e
    exact main (fun _ => none) (fun _ => .inl rfl) (.inr ⟨_, vs.toArray, _, hk, rfl, rfl, rfl, by rw [List.size_toArray, lenV]; exact hl, by simpa using rv⟩) (fun b u z => nomatch (show (none : Option HO) = some u from z)) (fun b z => absurd rfl z) fun z => absurd rfl z
  | none =>
    have at_a : ∀ {b : Addr} {u : HO}, (if b = a then some (HO.frz { cls := .type "list", data := .seq vs.toArray } (.lst (ns.map V.int))) else none) = some u → b = a ∧ u = .frz { cls := .type "list", data := .seq vs.toArray } (.lst (ns.map V.int)) := fun {b u} z => by
      by_cases hb : b = a
      · rw [if_pos hb] at z
        exact ⟨hb, (Option.some.inj z).symm⟩
      · rw [if_neg hb] at z
        cases z
    refine main (fun b => if b = a then some (.frz { cls := .type "list", data := .seq vs.toArray } (.lst (ns.map V.int))) else none) (fun b => ?_) (.inl (.inr ⟨{ cls := .type "list", data := .seq vs.toArray }, if_pos rfl⟩)) (fun b u z => ?_) (fun b z => ?_) fun _ => hk
    · by_cases hb : b = a
      · exact .inr ⟨_, _, if_pos hb⟩
      · exact .inl (if_neg hb)
    · obtain ⟨e1, e2⟩ := at_a z
      subst e1
      subst e2
      exact ⟨ha, by rw [List.length_map]; exact hl, vs, _, rv, ha⟩
    · cases q : (if b = a then some (HO.frz { cls := .type "list", data := .seq vs.toArray } (.lst (ns.map V.int))) else none) with
      | none => exact absurd q z
      | some u => exact (at_a q).1
theorem walkG {l : PySem.W.OpenLaw} {n k : Nat} {q : Program} {loose : List Str} {XP : (Str → Option Value) → Heap → Prop} {YP : World → Heap → Prop} {d : DefRec} {K : Params → PySem.W.Frag} {sp : PySem.W.Frag → Sp} {x : Str}
    (hn : l.most = some n) (hn2 : n ≤ sizeLine) (hdf : d.params.defaults = []) (hr : Room k callerA) (hq : importsNone q = true)
    (hY : ∀ (w : World) (h : Heap), YP w h → (K w.params).In h)
    (F : ∀ (w : World) (mg : Str → Option Value) (fa : Addr) (h : Heap), (K w.params).In h → h.Ns mainGlobals mg → mg d.name = some (.ref fa) →
      ∃ fd : FuncData, (∀ (s : Shared) (u : Value), BindsTo s fd ⟨[u], []⟩ [(x, u)]) ∧
        ∀ base : Heap, (K w.params).In base → base.Ns mainGlobals mg → BaseS base → FnG l.prog w (K w.params) mg base CX0 k fa fd [x] (sp (K w.params)))
    (hsp : ∀ (K : PySem.W.Frag) (H : Hp) (a : Addr) (ns : List Int), ns.length ≤ n → Only H → SqL K H a (ns.map V.int) → sp K [.ref a] H (fun v _ => v = .bl true) fun _ _ _ => False) :
    PySem.W.WalkO q loose XP YP l.row.toRowW d [] (fun f vs => PySem.call f vs) := by
  refine Att.attach_call hn hdf ?_
  intro w s0 s1 mg mb fa o pm cd doc a vs ns G Y ho hd hcd hmg hobj hints hlen hg
  have KX := hY w _ Y
  obtain ⟨fd, hb, hF⟩ := F w mg fa _ KX G.T.g hmg
  have hsy : ∃ mm, s1.heap.Ns sysModules mm := by
    obtain ⟨mm, h, _⟩ := (G.T.seer hq).mods
    exact ⟨mm, h⟩
  exact law_callG KX G.T.g G.T.b G.T.builtins G.T.nolimit hsy hg hobj hints (Nat.le_trans hlen hn2) hr hF hb fun H hO hS => hsp _ H a ns hlen hO hS
end Tk

namespace Tk
open PySem PySem.Spec PyProof.Rows L2

/-! ## the pen of the laws -/
abbrev kC : Key := Sum.inr ("cells" : Str)
abbrev kT : Key := Sum.inr ("turn" : Str)
abbrev kR : Key := Sum.inr ("rest" : Str)
def penK (c : Addr) (turn rest : Int) : List (Key × V) := [(kC, .ref c), (kT, .int turn), (kR, .int rest)]
theorem pen_ct : ¬ (kC = kT) := by decide +kernel
theorem pen_cr : ¬ (kC = kR) := by decide +kernel
theorem pen_tr : ¬ (kT = kR) := by decide +kernel
theorem pen_rt : ¬ (kR = kT) := by decide +kernel
theorem pen_cells {c : Addr} {t r : Int} : valV (penK c t r) (kC) = some (.ref c) := valV_pos (p := (kC, V.ref c)) rfl
theorem pen_turn {c : Addr} {t r : Int} : valV (penK c t r) (kT) = some (.int t) := by
  unfold penK
  rw [valV_neg (p := (kC, V.ref c)) pen_ct]
  exact valV_pos (p := (kT, V.int t)) rfl
theorem pen_rest {c : Addr} {t r : Int} : valV (penK c t r) (kR) = some (.int r) := by
  unfold penK
  rw [valV_neg (p := (kC, V.ref c)) pen_cr, valV_neg (p := (kT, V.int t)) pen_tr]
  exact valV_pos (p := (kR, V.int r)) rfl
theorem pen_putT {c : Addr} {t r x : Int} : putK (penK c t r) (kT) (.int x) = penK c x r := by
  have h : ((penK c t r).any fun kv => decide (kv.1 = kT)) = true := by rw [valV_any, pen_turn]; rfl
  unfold putK
  rw [if_pos h]
  show [if kC = kT then _ else _, if kT = kT then _ else _, if kR = kT then _ else _] = _
  rw [if_neg pen_ct, if_pos rfl, if_neg pen_rt]
  rfl
theorem pen_putR {c : Addr} {t r x : Int} : putK (penK c t r) (kR) (.int x) = penK c t x := by
  have h : ((penK c t r).any fun kv => decide (kv.1 = kR)) = true := by rw [valV_any, pen_rest]; rfl
  unfold putK
  rw [if_pos h]
  show [if kC = kR then _ else _, if kT = kR then _ else _, if kR = kR then _ else _] = _
  rw [if_neg pen_cr, if_neg pen_tr, if_pos rfl]
  rfl
/-- where a pen and its cells stand -/
structure Pn where
  p : Addr
  c : Addr
instance : Coe Pn Addr := ⟨Pn.p⟩
/-- the pen at p, t turns at most so far -/
def PenAt (p : Pn) (t : Nat) (N : Addr → Prop) (H : Hp) : Prop := ∃ (cells : List Int) (turn rest : Int), ¬ N p.p ∧ ¬ N p.c ∧ H p.p = some (.dK (penK p.c turn rest)) ∧ H p.c = some (.lst (cells.map V.int)) ∧
  cells.length ≤ 63 ∧ 0 ≤ turn ∧ turn ≤ t ∧ 0 ≤ rest
abbrev PenW (p : Pn) : Wo where
  Om := Nat
  Mu := fun a => a = p.p
  ok := fun t N H => PenAt p t N H
  grow := fun {t N H H'} ⟨cells, turn, rest, n1, n2, hp, hc, h⟩ k => ⟨cells, turn, rest, n1, n2, k _ _ hp n1, k _ _ hc n2, h⟩
  less := fun {t N N' H} ⟨cells, turn, rest, n1, n2, hp, hc, h⟩ s => ⟨cells, turn, rest,
    (fun m => (s p.p m).elim n1 fun z => by rw [z] at hp; cases hp), (fun m => (s p.c m).elim n2 fun z => by rw [z] at hc; cases hc), hp, hc, h⟩
  trk := fun {t N H a} ⟨cells, turn, rest, n1, n2, hp, hc, h⟩ e => by subst e; rw [hp]; exact fun z => nomatch z
instance (p : Pn) : Free (PenW p) := ⟨fun _ _ _ => trivial⟩
/-- a world that leans on what it leant on -/
class Fixd (W : Wo) : Prop where
  fix : ∀ {ω ω' : W.Om} {N N' : Addr → Prop} {H H' : Hp}, W.ok ω N H → W.ok ω' N' H' → W.ok ω' N H'
instance (p : Pn) : Fixd (PenW p) := ⟨fun {ω ω' N N' H H'} ⟨_, _, _, n1, n2, _⟩ ⟨cells, turn, rest, _, _, h⟩ => ⟨cells, turn, rest, n1, n2, h⟩⟩
instance : Fixd W0 := ⟨fun _ h => h⟩
/-- a draw of one of so many -/
def drawS (p : Pn) (ds : List D) (t : Nat) (Q : D → Nat → Prop) : Prop := ∃ many : Int, ds = [.ob p, .int many] ∧ 0 < many ∧ many < 1073741824 ∧ t < 2 ^ 60 ∧ ∀ k : Int, 0 ≤ k → k < many → Q (.int k) (t + 1)
theorem dp_ints {K : PySem.W.Frag} {H : Hp} : ∀ ns : List Int, DpAll K H (ns.map V.int) (ns.map PyData.int)
  | [] => .nil
  | n :: ns => .cons (.int n) (dp_ints ns)
theorem canLay_ints : ∀ ns : List Int, PyData.canLayAll0 (ns.map PyData.int) = true
  | [] => rfl
  | n :: ns => by
    show (PyData.canLay0 (.int n) && PyData.canLayAll0 (ns.map PyData.int)) = true
    rw [canLay_ints ns]
    rfl
theorem depth_ints : ∀ ns : List Int, PyData.depthAll (ns.map PyData.int) = 0
  | [] => rfl
  | n :: ns => by
    show max (PyData.depth (.int n)) (PyData.depthAll (ns.map PyData.int)) = 0
    rw [depth_ints ns]
    rfl
theorem shaped_ints (ns : List Int) : SeqAt.shaped (.list (ns.map PyData.int)) = true := by
  unfold SeqAt.shaped
  have h1 : PyData.canLay0 (.list (ns.map PyData.int)) = true := canLay_ints ns
  have h2 : PyData.depth (.list (ns.map PyData.int)) = 1 := by
    show PyData.depthAll (ns.map PyData.int) + 1 = 1
    rw [depth_ints]
  rw [h1, h2]
  rfl
theorem shaped_nil : SeqAt.shaped (.list []) = true := rfl
theorem ne_nil_ints (ns : List Int) : (!PyData.eqv (.list (ns.map PyData.int)) (.list [])) = !ns.isEmpty := by
  cases ns with
  | nil => simp [PyData.eqv, PyData.eqvAll]
  | cons n ns => simp [PyData.eqv, PyData.eqvAll]
end Tk

namespace Tk
open PySem PySem.Spec PyProof.Rows L2

/-! ## a list beside the empty one -/
def eqE : D → D → Option D
  | .lst xs, .lst [] => some (.bl xs.isEmpty)
  | _, _ => none
def eqD2 (x y : D) : Option D := match eqE x y with
  | some z => some z
  | none => eqD x y
section
variable {X : Cx} {W : Wo}
theorem op_eqE (hu : X.A.units < cLine) : OpR X (compareOp .Eq) (fun x y H Q => ∃ a b xs, x = .ref a ∧ y = .ref b ∧ H a = some (.lst xs) ∧ H b = some (.lst []) ∧ Q (.bl xs.isEmpty) H) := by
  intro pins s σ H x y v u Q I rx ry h
  obtain ⟨a, b, xs, rfl, rfl, h1, h2, q⟩ := h
  cases rx
  cases ry
  obtain ⟨its, r1, p1, _⟩ := I.list (SqL.of (K := X.K) h1)
  obtain ⟨its2, r2, p2, _⟩ := I.list (SqL.of (K := X.K) h2)
  cases r2
  cases r1 with
  | nil => exact SeqAt.eq_listAt (e := fun _ => true) p1.isList p2.isList rfl hu (fun j h => absurd h (Nat.not_lt_zero _)) ⟨.bl _, H, I, rfl, q⟩
  | cons r t => exact SeqAt.eq_list_lengthsAt p1.isList p2.isList rfl hu ⟨.bl _, H, I, rfl, q⟩
theorem o_eq2 (hu : X.A.units + 64 < cLine) : Op2 X W (compareOp .Eq) eqD2 := by
  obtain ⟨r, h1, h2⟩ := (o_eq hu : Op2 X W (compareOp .Eq) eqD)
  refine ⟨_, (op_eqE (by omega)).or h1, ?_⟩
  intro H Ex x y dx dy z Q tr hx hy e k
  unfold eqD2 at e
  split at e
  · rename_i z' e'
    cases e
    unfold eqE at e'
    split at e'
    · cases e'
      obtain ⟨a, vs, rfl, g1, g2⟩ := hx.ofL
      obtain ⟨b, ws, rfl, g3, g4⟩ := hy.ofL
      cases g4
      exact .inl ⟨a, b, vs, rfl, rfl, g1, g3, by rw [g2.isEmpty]; exact k _ _ (Same.refl H) (.bl _)⟩
    · cases e'
  · exact .inr (h2 tr hx hy e k)
end
theorem eqD2_nil (xs : List D) : eqD2 (.lst xs) (.lst []) = some (.bl xs.isEmpty) := rfl
/-! ## comprehensions and loops, told at once -/
section
variable {W : Wo} {f : D → Rho → Option Rho} {tt : DB W} {te : DT W} {ρ : Rho}
theorem lcW_map (g : D → D) : ∀ (items acc : List D) {ω : W.Om} {Q : D → W.Om → Prop}, (∀ x ∈ items, ∃ ρ', f x ρ = some ρ' ∧ ∀ (ω : W.Om) (Q : D → W.Om → Prop), Q (g x) ω → te ρ' ω Q) → acc.length + items.length ≤ sizeLine →
    Q (.lst (acc ++ items.map g)) ω → lcW f dYes te ρ items acc ω Q
  | [], acc, ω, Q, _, _, q => by rw [List.map_nil, List.append_nil] at q; exact q
  | x :: xs, acc, ω, Q, h, hl, q => by
    obtain ⟨ρ', e, k⟩ := h x List.mem_cons_self
    rw [List.length_cons] at hl
    have go := k ω (fun d ω2 => acc.length < sizeLine ∧ lcW f dYes te ρ xs (acc ++ [d]) ω2 Q) ⟨by omega, lcW_map g xs (acc ++ [g x]) (fun y hy => h y (List.mem_cons_of_mem _ hy)) (by rw [List.length_append, List.length_singleton]; omega) (by rw [List.append_assoc]; exact q)⟩
    exact ⟨ρ', e, go⟩
theorem lcW_filter (p : D → Bool) (g : D → D) : ∀ (items acc : List D) {ω : W.Om} {Q : D → W.Om → Prop},
    (∀ x ∈ items, ∃ ρ', f x ρ = some ρ' ∧ (∀ (ω : W.Om) (Q : Bool → W.Om → Prop), Q (p x) ω → tt ρ' ω Q) ∧ (p x = true → ∀ (ω : W.Om) (Q : D → W.Om → Prop), Q (g x) ω → te ρ' ω Q)) → acc.length + items.length ≤ sizeLine →
    Q (.lst (acc ++ (items.filter p).map g)) ω → lcW f tt te ρ items acc ω Q
  | [], acc, ω, Q, _, _, q => by rw [List.filter_nil, List.map_nil, List.append_nil] at q; exact q
  | x :: xs, acc, ω, Q, h, hl, q => by
    obtain ⟨ρ', e, k1, k2⟩ := h x List.mem_cons_self
    rw [List.length_cons] at hl
    refine ⟨ρ', e, k1 _ _ ?_⟩
    cases hp : p x with
    | true =>
      rw [if_pos rfl]
      refine k2 hp _ _ ⟨by omega, lcW_filter p g xs (acc ++ [g x]) (fun y hy => h y (List.mem_cons_of_mem _ hy)) (by rw [List.length_append, List.length_singleton]; omega) ?_⟩
      rw [List.filter_cons_of_pos hp, List.map_cons] at q
      rw [List.append_assoc]
      exact q
    | false =>
      rw [if_neg Bool.false_ne_true]
      refine lcW_filter p g xs acc (fun y hy => h y (List.mem_cons_of_mem _ hy)) (by omega) ?_
      rw [List.filter_cons_of_neg (by rw [hp]; exact Bool.false_ne_true)] at q
      exact q
/-- by an invariant of what is made so far -/
theorem lcW_inv (I : Nat → List D → W.Om → Prop) : ∀ (items acc : List D) {i : Nat} {ω : W.Om} {Q : D → W.Om → Prop}, acc.length + items.length ≤ sizeLine → I i acc ω →
    (∀ (j : Nat) (x : D) (acc : List D) (ω : W.Om), items[j]? = some x → I (i + j) acc ω → ∃ ρ', f x ρ = some ρ' ∧ ∀ Q : D → W.Om → Prop, (∀ d ω', I (i + j + 1) (acc ++ [d]) ω' → Q d ω') → te ρ' ω Q) →
    (∀ acc ω, I (i + items.length) acc ω → Q (.lst acc) ω) → lcW f dYes te ρ items acc ω Q
  | [], acc, i, ω, Q, _, h, _, d => d acc ω h
  | x :: xs, acc, i, ω, Q, hl, h, st, d => by
    obtain ⟨ρ', e, k⟩ := st 0 x acc ω rfl h
    rw [List.length_cons] at hl
    have go := k (fun d ω2 => acc.length < sizeLine ∧ lcW f dYes te ρ xs (acc ++ [d]) ω2 Q) fun y ω' h' => ⟨by omega, lcW_inv I xs (acc ++ [y]) (i := i + 1) (by rw [List.length_append, List.length_singleton]; omega) h' (fun j z acc ω hz hI => by
      have e1 : i + 1 + j = i + (j + 1) := by omega
      rw [e1] at hI ⊢
      exact st (j + 1) z acc ω (by simpa using hz) hI) fun acc ω hI => d acc ω (by
      rw [List.length_cons]
      have e1 : i + (xs.length + 1) = i + 1 + xs.length := by omega
      rw [e1]
      exact hI)⟩
    exact ⟨ρ', e, go⟩
theorem forW_inv {tb : DTS W} {D0 : DEnds W} (I : Nat → Rho → W.Om → Prop) : ∀ (items : List D) {i : Nat} {ρ : Rho} {ω : W.Om}, I i ρ ω →
    (∀ (j : Nat) (x : D) (ρ : Rho) (ω : W.Om), items[j]? = some x → I (i + j) ρ ω → ∃ ρ', f x ρ = some ρ' ∧ ∀ nx : Rho → W.Om → Prop, (∀ ρ ω, I (i + j + 1) ρ ω → nx ρ ω) → tb { D0 with nx := nx, ct := nx, bk := D0.nx } ρ' ω) →
    (∀ ρ ω, I (i + items.length) ρ ω → D0.nx ρ ω) → forW f tb D0 items ρ ω
  | [], i, ρ, ω, h, _, d => d ρ ω h
  | x :: xs, i, ρ, ω, h, st, d => by
    obtain ⟨ρ', e, k⟩ := st 0 x ρ ω rfl h
    refine ⟨ρ', e, k _ fun ρ ω h' => forW_inv I xs (i := i + 1) h' (fun j z ρ ω hz hI => ?_) fun ρ ω hI => ?_⟩
    · have e1 : i + 1 + j = i + (j + 1) := by omega
      rw [e1] at hI ⊢
      exact st (j + 1) z ρ ω (by simpa using hz) hI
    · refine d ρ ω ?_
      rw [List.length_cons]
      have e1 : i + (xs.length + 1) = i + 1 + xs.length := by omega
      rw [e1]
      exact hI
end
theorem boolsD_map {α : Type} (p : α → Bool) : ∀ xs : List α, boolsD (xs.map fun x => D.bl (p x)) = some (xs.map p)
  | [] => rfl
  | x :: xs => by
    show (boolsD (xs.map fun x => D.bl (p x))).map (fun r => p x :: r) = _
    rw [boolsD_map p xs]
    rfl
theorem allD_map {α : Type} (p : α → Bool) (xs : List α) : allD (.lst (xs.map fun x => D.bl (p x))) = some (.bl (xs.all p)) := by
  show (boolsD (xs.map fun x => D.bl (p x))).map (fun bs => D.bl (bs.all id)) = _
  rw [boolsD_map]
  show some (D.bl ((xs.map p).all id)) = _
  rw [List.all_map]
  rfl
theorem rngD_length (lo : Int) (n : Nat) : (rngD lo n).length = n := by unfold rngD; simp
theorem rngD_at {lo : Int} {n j : Nat} {x : D} (h : (rngD lo n)[j]? = some x) : j < n ∧ x = .int (lo + j) := by
  have hj : j < n := by
    have := (List.getElem?_eq_some_iff.mp h).1
    rw [rngD_length] at this
    exact this
  refine ⟨hj, ?_⟩
  unfold rngD at h
  rw [List.getElem?_map, List.getElem?_range hj] at h
  exact (Option.some.inj h).symm
/-! ## a def that keeps no promise -/
theorem FnG.no {P : Program} {w : World} {K : PySem.W.Frag} {mg : Str → Option Value} {base : Heap} {CX : CXT} {k : Nat} {f : Addr} {fd : FuncData} {ps : List Str} {W : Wo} : FnG P w K mg base CX k f fd ps (spOf W fun _ _ _ => False) where
  len := fun vs H Q E ⟨_, _, _, _, _, _, _, _, h, _⟩ => h.elim
  run := fun A outer s H args us vs Q E g hr e0 hb r ⟨_, _, _, _, _, _, _, _, h, _⟩ => h.elim
/-- a weaker promise over data -/
theorem FnG.impD {P : Program} {w : World} {K : PySem.W.Frag} {mg : Str → Option Value} {base : Heap} {k : Nat} {f : Addr} {fd : FuncData} {ps : List Str} {W : Wo} {S S' : Spd W} (F : FnG P w K mg base CX0 k f fd ps (spOf W S))
    (h : ∀ ds ω Q, S' ds ω Q → S ds ω Q) : FnG P w K mg base CX0 k f fd ps (spOf W S') :=
  F.imp fun vs H Q E ⟨Ex, ω, ds, Q0, a, b, c, d, e, g⟩ => ⟨Ex, ω, ds, Q0, a, b, c, d, h _ _ _ e, g⟩
/-! ## calls that leave defaults -/
structure DfD (K : PySem.W.Frag) (mg : Str → Option Value) (x : Str) (st : Stmt) (ps : List Str) (dvs : List V) (f : Addr) (fd : FuncData) : Prop where
  F : FunD K x x (defArgs st) (defBody st) (defScope st) dvs [] f fd
  m : mg x = some (.ref f)
  bd : ∃ dus, Vals dvs dus ∧ Binds K fd ps dus
theorem de_clD {X : Cx} {W : Wo} {e : Expr} {es : List Expr} {pos : Pos} {tl : DA W} {k : Nat} {f : Addr} {fd : FuncData} {ps : List Str} {S : Spd W} {dvs : List V} {dds : List D} {x : Str} {p : Pos} (F : FnG X.prog X.w X.K X.mg X.base CX0 k f fd ps (spOf W S)) (g : Gd X.A) (hr : Room k X.A)
    (hg : Gl X x) (hm : X.mg x = some (.ref f)) (hk : PySem.W.keepIn X.K (.ref f) = true) (hb : ∃ dus, Vals dvs dus ∧ Binds X.K fd ps dus) (hf : Paired Flat dvs dds) (ha : DL X W (e :: es) tl)
    (hdb : (x == ("__debug__" : Str)) = false := by decide) (he : starEach (e :: es) X.env = (false, eval e X.env) :: starEach es X.env := by rfl) (hpl : (backTo pos (starEach es X.env)).any (·.1) = false := by rfl) :
    DE X W (.Call (.Name x p) (e :: es) [] pos) (dCall S dds tl) := by
  obtain ⟨dus, h1, h2⟩ := hb
  exact de_cl F g hr hg hm hk h2 h1 hf ha hdb he hpl
/-! ## what is known of each kind -/
@[simp] theorem isObD_non  : isObD D.non = false := rfl
@[simp] theorem isN_non  : isN D.non = true := rfl
@[simp] theorem isI_non (T : String)  : isI T D.non = isIT "NoneType" T := rfl
@[simp] theorem isObD_bl (b : Bool) : isObD (D.bl b) = false := rfl
@[simp] theorem isN_bl (b : Bool) : isN (D.bl b) = false := rfl
@[simp] theorem isI_bl (T : String) (b : Bool) : isI T (D.bl b) = isIT "bool" T := rfl
@[simp] theorem isObD_int (i : Int) : isObD (D.int i) = false := rfl
@[simp] theorem isN_int (i : Int) : isN (D.int i) = false := rfl
@[simp] theorem isI_int (T : String) (i : Int) : isI T (D.int i) = isIT "int" T := rfl
@[simp] theorem isObD_str (x : Str) : isObD (D.str x) = false := rfl
@[simp] theorem isN_str (x : Str) : isN (D.str x) = false := rfl
@[simp] theorem isI_str (T : String) (x : Str) : isI T (D.str x) = isIT "str" T := rfl
@[simp] theorem isObD_lst (xs : List D) : isObD (D.lst xs) = false := rfl
@[simp] theorem isN_lst (xs : List D) : isN (D.lst xs) = false := rfl
@[simp] theorem isI_lst (T : String) (xs : List D) : isI T (D.lst xs) = isIT "list" T := rfl
@[simp] theorem isObD_tup (xs : List D) : isObD (D.tup xs) = false := rfl
@[simp] theorem isN_tup (xs : List D) : isN (D.tup xs) = false := rfl
@[simp] theorem isI_tup (T : String) (xs : List D) : isI T (D.tup xs) = isIT "tuple" T := rfl
@[simp] theorem isObD_dic (xs : List (Key × D)) : isObD (D.dic xs) = false := rfl
@[simp] theorem isN_dic (xs : List (Key × D)) : isN (D.dic xs) = false := rfl
@[simp] theorem isI_dic (T : String) (xs : List (Key × D)) : isI T (D.dic xs) = isIT "dict" T := rfl
@[simp] theorem isObD_ob (a : Addr) : isObD (D.ob a) = true := rfl
@[simp] theorem isN_ob (a : Addr) : isN (D.ob a) = false := rfl
@[simp] theorem isObD_obj (a : Addr) (ns : List Str) (ds : List D) : isObD (D.obj a ns ds) = true := rfl
@[simp] theorem isN_obj (a : Addr) (ns : List Str) (ds : List D) : isN (D.obj a ns ds) = false := rfl
@[simp] theorem isObD_ext (φ : Addr → List V → Heap → Prop) (ds : List D) : isObD (D.ext φ ds) = true := rfl
@[simp] theorem isObD_exc (C : Addr) (ns : List Str) (ds : List D) : isObD (D.exc C ns ds) = true := rfl
@[simp] theorem isN_ext (φ : Addr → List V → Heap → Prop) (ds : List D) : isN (D.ext φ ds) = false := rfl
@[simp] theorem isN_exc (C : Addr) (ns : List Str) (ds : List D) : isN (D.exc C ns ds) = false := rfl
@[simp] theorem isI_ob (T : String) (a : Addr) : isI T (D.ob a) = isIT "" T := rfl
theorem inD_f {c : Nat} {y : Str} : inD false (.str ⟨#[c]⟩) (.str y) = some (.bl (decide (c ∈ y.cps.toList))) := rfl
theorem inD_t {c : Nat} {y : Str} : inD true (.str ⟨#[c]⟩) (.str y) = some (.bl (!decide (c ∈ y.cps.toList))) := rfl
/-! ## data of small parts -/
mutual
/-- no opaque thing; texts and lists are small -/
def D.wf : D → Bool
  | .non => true
  | .bl _ => true
  | .int _ => true
  | .str x => decide (x.length ≤ 1000) && PyData.strOk x
  | .lst xs => decide (xs.length ≤ 1000) && D.wfL xs
  | .tup xs => decide (xs.length ≤ 1000) && D.wfL xs
  | .dic kvs => decide (kvs.length ≤ 1000) && D.wfK kvs
  | .ob _ => false
  | .obj _ _ _ => false
  | .ext _ _ => false
  | .exc _ _ _ => false
def D.wfL : List D → Bool
  | [] => true
  | d :: ds => d.wf && D.wfL ds
def D.wfK : List (Key × D) → Bool
  | [] => true
  | (_, d) :: ds => d.wf && D.wfK ds
end
theorem wf_ob {d : D} (h : d.wf = true) : isObD d = false := by
  cases d <;> first | rfl | cases h
theorem wfL_mem {ds : List D} : D.wfL ds = true → ∀ d ∈ ds, d.wf = true := by
  induction ds with
  | nil => intro _ d hd; cases hd
  | cons x xs ih =>
    intro h d hd
    have h' := Bool.and_eq_true_iff.mp (show (x.wf && D.wfL xs) = true from h)
    rcases List.mem_cons.mp hd with e | hd
    · rw [e]; exact h'.1
    · exact ih h'.2 d hd
theorem wf_str {x : Str} (h : (D.str x).wf = true) : x.length ≤ 1000 ∧ PyData.strOk x = true := by
  have h' := Bool.and_eq_true_iff.mp (show (decide (x.length ≤ 1000) && PyData.strOk x) = true from h)
  exact ⟨of_decide_eq_true h'.1, h'.2⟩
theorem wf_tup {xs : List D} (h : (D.tup xs).wf = true) : xs.length ≤ 1000 ∧ D.wfL xs = true := by
  have h' := Bool.and_eq_true_iff.mp (show (decide (xs.length ≤ 1000) && D.wfL xs) = true from h)
  exact ⟨of_decide_eq_true h'.1, h'.2⟩
theorem wf_lst {xs : List D} (h : (D.lst xs).wf = true) : xs.length ≤ 1000 ∧ D.wfL xs = true := by
  have h' := Bool.and_eq_true_iff.mp (show (decide (xs.length ≤ 1000) && D.wfL xs) = true from h)
  exact ⟨of_decide_eq_true h'.1, h'.2⟩
theorem line1000 {n : Nat} (h : n ≤ 1000) : n ≤ sizeLine := Nat.le_trans h (by decide)
/-! ## words -/
def abc : Str := "abcdefghijklmnopqrstuvwxyz"
def signsAll (z x : Str) : Bool := x.cps.toList.all fun c => decide (c ∈ z.cps.toList)
theorem signs_len (x : Str) : (signs x).length = x.length := by
  unfold signs
  rw [List.length_map]
  exact Array.length_toList
theorem signs_mem {x : Str} {d : D} (h : d ∈ signs x) : ∃ c, d = .str ⟨#[c]⟩ ∧ c ∈ x.cps.toList := by
  unfold signs at h
  obtain ⟨c, hc, e⟩ := List.mem_map.mp h
  exact ⟨c, e.symm, hc⟩
end Tk

namespace Tk
open PySem PySem.Spec PyProof.Rows L2
/-! ## data that repr can tell -/
structure Sh (B n k : Nat) (d : D) : Prop where
  wf : d.wf = true
  pl : d.pl = true
  sw : d.py.showable = true
  lv : d.py.leavesShort B = true
  wt : d.py.weight ≤ n
  dp : d.py.depth ≤ k
structure ShL (B n k : Nat) (xs : List D) : Prop where
  wf : D.wfL xs = true
  pl : D.plL xs = true
  sw : PyData.showableAll (D.pyL xs) = true
  lv : PyData.leavesShortAll B (D.pyL xs) = true
  wt : PyData.weightAll (D.pyL xs) ≤ xs.length * (n + 1)
  dp : PyData.depthAll (D.pyL xs) ≤ k
def shB (B n k : Nat) (d : D) : Bool := d.wf && d.pl && d.py.showable && d.py.leavesShort B && decide (d.py.weight ≤ n) && decide (d.py.depth ≤ k)
theorem Sh.of {B n k : Nat} {d : D} (h : shB B n k d = true) : Sh B n k d := by
  unfold shB at h
  simp only [Bool.and_eq_true, decide_eq_true_eq] at h
  exact ⟨h.1.1.1.1.1, h.1.1.1.1.2, h.1.1.1.2, h.1.1.2, h.1.2, h.2⟩
theorem Sh.le {B n k n' k' : Nat} {d : D} (h : Sh B n k d) (hn : n ≤ n') (hk : k ≤ k') : Sh B n' k' d := ⟨h.wf, h.pl, h.sw, h.lv, Nat.le_trans h.wt hn, Nat.le_trans h.dp hk⟩
theorem ShL.nil {B n k : Nat} : ShL B n k [] := ⟨rfl, rfl, rfl, rfl, Nat.zero_le _, Nat.zero_le _⟩
theorem ShL.cons {B n k : Nat} {d : D} {xs : List D} (h : Sh B n k d) (t : ShL B n k xs) : ShL B n k (d :: xs) where
  wf := Bool.and_eq_true_iff.mpr ⟨h.wf, t.wf⟩
  pl := Bool.and_eq_true_iff.mpr ⟨h.pl, t.pl⟩
  sw := Bool.and_eq_true_iff.mpr ⟨h.sw, t.sw⟩
  lv := Bool.and_eq_true_iff.mpr ⟨h.lv, t.lv⟩
  wt := by
    show PyData.weight d.py + 1 + PyData.weightAll (D.pyL xs) ≤ (xs.length + 1) * (n + 1)
    have h1 := h.wt
    have h2 := t.wt
    rw [Nat.add_mul]
    omega
  dp := Nat.max_le.mpr ⟨h.dp, t.dp⟩
theorem ShL.all {B n k : Nat} : ∀ {xs : List D}, (∀ x ∈ xs, Sh B n k x) → ShL B n k xs
  | [], _ => .nil
  | x :: xs, h => .cons (h x List.mem_cons_self) (.all fun y hy => h y (List.mem_cons_of_mem _ hy))
section
variable {B n k n' k' m : Nat} {xs : List D}
theorem Sh.tup (h : ∀ x ∈ xs, Sh B n k x) (hl : xs.length ≤ m) (hm : m ≤ 1000) (hn : m * (n + 1) ≤ n') (hk : k + 1 ≤ k') : Sh B n' k' (.tup xs) := by
  have s := ShL.all h
  have hw : xs.length * (n + 1) ≤ n' := Nat.le_trans (Nat.mul_le_mul_right _ hl) hn
  refine ⟨?_, s.pl, s.sw, s.lv, Nat.le_trans s.wt hw, ?_⟩
  · show (decide (xs.length ≤ 1000) && D.wfL xs) = true
    rw [s.wf, Bool.and_true, decide_eq_true_eq]
    omega
  · show PyData.depthAll (D.pyL xs) + 1 ≤ k'
    have := s.dp
    omega
theorem Sh.lst (h : ∀ x ∈ xs, Sh B n k x) (hl : xs.length ≤ m) (hm : m ≤ 1000) (hn : m * (n + 1) ≤ n') (hk : k + 1 ≤ k') : Sh B n' k' (.lst xs) := by
  have s := ShL.all h
  have hw : xs.length * (n + 1) ≤ n' := Nat.le_trans (Nat.mul_le_mul_right _ hl) hn
  refine ⟨?_, s.pl, s.sw, s.lv, Nat.le_trans s.wt hw, ?_⟩
  · show (decide (xs.length ≤ 1000) && D.wfL xs) = true
    rw [s.wf, Bool.and_true, decide_eq_true_eq]
    omega
  · show PyData.depthAll (D.pyL xs) + 1 ≤ k'
    have := s.dp
    omega
/-- a dict of one written key -/
theorem Sh.dic1 {z : Str} {d : D} (h : Sh B n k d) (hz : shB B m 0 (.str z) = true) (hn : m + n + 2 ≤ n') (hk : k + 1 ≤ k') : Sh B n' k' (.dic [(.inr z, d)]) := by
  have s := Sh.of hz
  refine ⟨?_, Bool.and_eq_true_iff.mpr ⟨h.pl, rfl⟩, ?_, ?_, ?_, ?_⟩
  · show (true && (d.wf && true)) = true
    rw [h.wf]; rfl
  · show (PyData.showable (.str z) && d.py.showable && true) = true
    rw [h.sw]; rfl
  · show (PyData.leavesShort B (.str z) && d.py.leavesShort B && true) = true
    rw [h.lv, show PyData.leavesShort B (.str z) = true from s.lv]; rfl
  · show PyData.weight (.str z) + PyData.weight d.py + 2 + 0 ≤ n'
    have := h.wt
    have h2 : PyData.weight (.str z) ≤ m := s.wt
    omega
  · show max (max (PyData.depth (.str z)) d.py.depth) 0 + 1 ≤ k'
    have := h.dp
    have h2 : PyData.depth (.str z) ≤ 0 := s.dp
    omega
theorem Sh.bl {b : Bool} : Sh B n k (.bl b) := ⟨rfl, rfl, rfl, rfl, Nat.zero_le _, Nat.zero_le _⟩
theorem Sh.non : Sh B n k .non := ⟨rfl, rfl, rfl, rfl, Nat.zero_le _, Nat.zero_le _⟩
theorem log2_le : ∀ (m n : Nat), n < 2 ^ (m + 1) → n.log2 ≤ m := fun m n h => by
  by_cases z : n = 0
  · subst z; exact Nat.zero_le _
  · exact Nat.le_of_lt_succ ((Nat.log2_lt z).mpr h)
theorem Sh.int {i : Int} (h : i.natAbs < 10 ^ 15) (hn : 60 ≤ n) (hB : 16 ≤ B) : Sh B n k (.int i) := by
  have h1 : i.natAbs.log2 ≤ 50 := log2_le 50 _ (Nat.lt_trans h (by decide))
  refine ⟨rfl, rfl, ?_, ?_, ?_, Nat.zero_le _⟩
  · show decide (i.natAbs.log2 < 1920) = true
    rw [decide_eq_true_eq]; omega
  · show decide ((PyData.shown (.int i)).length ≤ B) = true
    have e := int_text_length_le10 (k := 15) (by decide) h
    have e2 : (PyData.shown (.int i)).length ≤ 16 := by
      show (Str.ofString (toString i)).length ≤ 16
      rw [PySem.ofString_length]; exact e
    rw [decide_eq_true_eq]; omega
  · show (if (i == 0) = true then 0 else i.natAbs.log2 + 1) ≤ n
    split <;> omega
theorem Sh.shw {d : D} (h : Sh B n k d) (hB : 8 ≤ B) (hw : (B + 2) * n + B ≤ sizeLine) (hk : k ≤ 60) : shwOk d = true := by
  unfold shwOk
  have e := PyData.shown_le B hB d.py h.lv
  have e2 : (B + 2) * d.py.weight ≤ (B + 2) * n := Nat.mul_le_mul_left _ h.wt
  rw [h.pl, h.sw, Bool.true_and, Bool.true_and, Bool.and_eq_true, decide_eq_true_eq, decide_eq_true_eq]
  have := h.dp
  omega
theorem Sh.repr {d : D} (h : Sh B n k d) (hB : 8 ≤ B) (hw : (B + 2) * n + B ≤ sizeLine) (hk : k ≤ 60) : reprD d = some (.str d.py.shown) := by
  unfold reprD
  rw [if_pos (h.shw hB hw hk)]
end
/-! ## weak readings of draws -/
theorem mul_ok {a b : Int} (h : -(2 ^ 64) < b ∧ b < 2 ^ 64) : mulD2 (.int a) (.int b) = some (.int (a * b)) := by
  show mulD (.int a) (.int b) = _
  unfold mulD
  exact if_pos (.inr h)
theorem cut {W : Wo} {te : DT W} {ρ : Rho} {ω : W.Om} {Q : D → W.Om → Prop} (I : D → W.Om → Prop) (h : ∀ Q' : D → W.Om → Prop, (∀ d ω', I d ω' → Q' d ω') → te ρ ω Q') (h2 : ∀ d ω', I d ω' → Q d ω') : te ρ ω Q := h Q h2
theorem ite_i {b : Bool} {A B : Prop} (h1 : b = true → A) (h2 : b = false → B) : if b = true then A else B := by
  cases b
  · exact h2 rfl
  · exact h1 rfl
theorem eqi {a b : Int} : eqD2 (.int a) (.int b) = some (.bl (decide (a = b))) := rfl
theorem eqs {a b : Str} : eqD2 (.str a) (.str b) = some (.bl (decide (a = b))) := rfl
end Tk

namespace Tk
open PySem PySem.Spec PyProof.Rows L2
/-! ## laws with a pen -/
def penSp (K : PySem.W.Frag) (n : Nat) : Sp := fun vs H Q _ => ∃ (a : Addr) (ns : List Int), vs = [.ref a] ∧ SqL K H a (ns.map V.int) ∧
  ∀ (p : Pn) (cells : List Int) (H' : Hp), H p.p = none → H p.c = none → cells.length ≤ n → (∀ b o, H b = some o → H' b = some o) → H' p.p = some (.dK (penK p.c 0 0)) → H' p.c = some (.lst (cells.map V.int)) → Q (.ref p.p) H'
theorem cutV_ints (ns : List Int) (lo hi : Option Int) : cutV (ns.map V.int) lo hi = ((ns.drop (HT.sIx ns.length 0 lo)).take (HT.sIx ns.length ns.length hi - HT.sIx ns.length 0 lo)).map V.int := by
  unfold cutV
  rw [List.length_map, List.map_take, List.map_drop]
theorem sqL_mono {K : PySem.W.Frag} {H H' : Hp} {a : Addr} {xs : List V} (h : SqL K H a xs) (e : ∀ b o, H b = some o → H' b = some o) : SqL K H' a xs :=
  h.elim (fun h => .inl (h.elim (fun h => .inl (e _ _ h)) fun ⟨o, h⟩ => .inr ⟨o, e _ _ h⟩)) fun h => .inr h
theorem cutI {W : Wo} {c : DB W} {a b u : DTS W} {D0 : DEnds W} {ρ : Rho} {ω : W.Om} (I : Rho → W.Om → Prop) (h : ∀ nx' : Rho → W.Om → Prop, (∀ ρ' ω', I ρ' ω' → nx' ρ' ω') → dIfS c a b { D0 with nx := nx' } ρ ω) (h2 : ∀ ρ' ω', I ρ' ω' → u D0 ρ' ω') : dSeq (dIfS c a b) u D0 ρ ω :=
  h (u D0) h2
theorem nes_same {a : Str} : neD (.str a) (.str a) = some (.bl false) := by
  have e : neD (.str a) (.str a) = some (.bl (!decide (a = a))) := rfl
  rw [e, decide_eq_true rfl]
  rfl
/-- a law that ends True -/
def lawSp (K : PySem.W.Frag) : Sp := fun vs H Q _ => ∃ (a : Addr) (ns : List Int), vs = [.ref a] ∧ SqL K H a (ns.map V.int) ∧ ∀ H', Q (.bl true) H'
theorem lawSp_of (K : PySem.W.Frag) (H : Hp) (a : Addr) (ns : List Int) {n : Nat} (_ : ns.length ≤ n) (_ : Only H) (h : SqL K H a (ns.map V.int)) : lawSp K [.ref a] H (fun v _ => v = .bl true) fun _ _ _ => False :=
  ⟨a, ns, rfl, h, fun _ => rfl⟩
/-- the rest of a law, once the pen is made -/
theorem pen_go {t : ∀ p, DTS (PenW p)} {nx : List (Option V) → Hp → Prop} {Q : VK} {p : Pn} {a : Addr} {cells : List Int} {n : Nat} {H' : Hp} (hp : H' p.p = some (.dK (penK p.c 0 0))) (hc : H' p.c = some (.lst (cells.map V.int))) (hl : cells.length ≤ 63)
    (q : ∀ H', Q (.bl true) H') (h : t p { nx := fun _ _ => False, rt := fun d _ => d = .bl true } (none :: some (.d (.ob p.p)) :: List.replicate n none) 0) : ∃ i, tS (PenW i) (t i) { nx := nx, rt := Q } (some (.ref a) :: some (.ref p.p) :: List.replicate n none) H' := by
  have ne : p.c ≠ p.p := fun e => by rw [e, hp] at hc; cases hc
  refine ⟨p, ⟨H', fun b => b = p.p⟩, fun b => b = p.p, _, (0 : Nat), { nx := fun _ _ => False, rt := fun d _ => d = .bl true }, ?_, h, ?_⟩
  · refine ⟨⟨cells, 0, 0, fun m => m.2 rfl, fun m => ne m.1, hp, hc, hl, Int.le_refl _, Int.le_refl _, Int.le_refl _⟩, fun _ h => h, fun _ h => h, fun _ h => .inl h, ?_, ?_, Kp.refl, by simp, ?_, ?_, ?_, trivial⟩
    · intro b e; show H' b ≠ none; rw [show b = p.p from e, hp]; exact fun z => nomatch z
    · intro b e; show H' b ≠ none; rw [show b = p.p from e, hp]; exact fun z => nomatch z
    · intro i z e
      match i, e with
      | 0, e => cases e
      | 1, e => cases e; exact ⟨_, rfl, .ob p.p⟩
      | i + 2, e =>
        have e' : (List.replicate n (none : Option Sl))[i]? = some (some z) := e
        rw [List.getElem?_replicate] at e'
        split at e' <;> cases e'
    · intro i j z y b ei ej hz
      match i, ei with
      | 0, e => cases e
      | 1, e => cases e; cases hz
      | i + 2, e =>
        have e' : (List.replicate n (none : Option Sl))[i]? = some (some z) := e
        rw [List.getElem?_replicate] at e'
        split at e' <;> cases e'
    · intro i z b ei hz
      match i, ei with
      | 0, e => cases e
      | 1, e => cases e; cases hz
      | i + 2, e =>
        have e' : (List.replicate n (none : Option Sl))[i]? = some (some z) := e
        rw [List.getElem?_replicate] at e'
        split at e' <;> cases e'
  · refine ⟨fun σ H ⟨_, _, _, _, _, z⟩ => z.elim, fun v H ⟨d, ω', _, _, h1, h2⟩ => ?_, fun σ H ⟨_, _, _, _, _, z⟩ => z.elim, fun σ H ⟨_, _, _, _, _, z⟩ => z.elim⟩
    subst h2
    cases h1
    exact q _
end Tk

namespace Tk
open PySem PySem.Spec PyProof.Rows L2

/-! ## methods and makings, where no repr is running -/
section
variable {X : Cx} {CX : CXT} {k : Nat} {f C : Addr} {fd : FuncData} {ps : List Str} {sp : Sp} {dvs : List V} {ds : List Value} {E : XK} {x m : Str} {p pos apos : Pos} {e o : Expr} {es : List Expr} {ta : TE} {t : TA}
theorem pe_mG {pl : Sem Bool} (he : PE X o ta) (c : Cls X.K C) (hm : Meth X.K C m f) (F : FnG X.prog X.w X.K X.mg X.base CX k f fd ps sp) (g : Gd X.A)
    (hr : Room k X.A) (hb : Binds X.K fd ps ds) (hd : Vals dvs ds) (hx : Passes CX X E) (ha : PA X (e :: es) t)
    (hst : starEach (e :: es) X.env = (false, eval e X.env) :: starEach es X.env := by rfl)
    (hpl : (backTo pos (starEach es X.env)).any (·.1) = false := by rfl)
    (ht : eval (.Call (.Attribute o m apos) (e :: es) [] pos) X.env = (do
      let ov ← eval o X.env
      standAt apos.atName
      let (fn, first) ← holding [ov] (getMethod ov m pl)
      callWith pos fn first (backTo pos (starEach (e :: es) X.env)) (backToKw pos (keywordEach [] X.env))) := by rfl) :
    PE X (.Call (.Attribute o m apos) (e :: es) [] pos) (tMeth C m sp dvs E ta t) := by
  constructor
  intro pins s σ H Q I h
  refine PySem.W.methodCall_KW (pl := pl) (thn (he.run pins s σ H _ I h) ?_) ht
  rintro u s1 ⟨y, H1, I1, ry, a, dx, fs, rfl, ea, l, q⟩
  obtain rfl : u = Value.ref a := ry
  refine getmeth_ok I1 ea c hm l (PySem.W.callWith_K (first := [.ref a]) (h₀ := X.base) I.ok.mod.kin hm.kp (thn (ha.run pos pins s1 σ H1 _ I1 q) ?_) hst hpl)
  rintro us s2 ⟨vs, H2, I2, r, q2⟩
  exact ⟨I2.kIn, goFn (us := .ref a :: us) (vs := .ref a :: vs) F g hr hb hd hx I2 (.cons rfl r) q2⟩
theorem pe_mG0 {pl : Sem Bool} (he : PE X o ta) (c : Cls X.K C) (hm : Meth X.K C m f) (F : FnG X.prog X.w X.K X.mg X.base CX k f fd ps sp) (g : Gd X.A)
    (hr : Room k X.A) (hb : Binds X.K fd ps ds) (hd : Vals dvs ds) (hx : Passes CX X E)
    (ht : eval (.Call (.Attribute o m apos) [] [] pos) X.env = (do
      let ov ← eval o X.env
      standAt apos.atName
      let (fn, first) ← holding [ov] (getMethod ov m pl)
      callWith pos fn first (backTo pos (starEach [] X.env)) (backToKw pos (keywordEach [] X.env))) := by rfl) :
    PE X (.Call (.Attribute o m apos) [] [] pos) (tMeth C m sp dvs E ta tNil) := by
  constructor
  intro pins s σ H Q I h
  refine PySem.W.methodCall_KW (pl := pl) (thn (he.run pins s σ H _ I h) ?_) ht
  rintro u s1 ⟨y, H1, I1, ry, a, dx, fs, rfl, ea, l, q⟩
  obtain rfl : u = Value.ref a := ry
  exact getmeth_ok I1 ea c hm l (PySem.W.callWith_K0 (first := [.ref a]) I1.kIn hm.kp (goFn (us := [.ref a]) (vs := [.ref a]) F g hr hb hd hx I1 (.cons rfl .nil) q))
theorem goMake {pins : List (Addr × Obj)} {σ : List (Option V)} {H : Hp} {s : Shared} {Q : VK} {us : List Value} {vs : List V} (M : Mk X.K C f) (F : FnG X.prog X.w X.K X.mg X.base CX k f fd ps sp) (g : Gd X.A)
    (hr : Room (k + 1) X.A) (hb : Binds X.K fd ps ds) (hd : Vals dvs ds) (hx : Passes CX X E) (I : Inv X pins σ H s) (r : Vals vs us)
    (h : ∀ y dy, H y = none → H dy = none → dy ≠ y → sp (.ref y :: (vs ++ dvs)) (upd (upd H dy (.own y)) y (.ins C dy [])) (fun v H2 => v = .non ∧ Q (.ref y) H2) E) :
    wpAny (model X.prog X.w) X.A (call (.ref C) us) (EP X pins σ Q) X.xe s := by
  have q := h (s.heap.objs.size + 1) s.heap.objs.size (I.hok.fresh (Nat.le_succ _)) (I.hok.fresh (Nat.le_refl _)) (Nat.ne_of_lt (Nat.lt_succ_self _))
  have J := Inv.made (C := C) I
  have both : Vals (V.ref (s.heap.objs.size + 1) :: (vs ++ dvs)) (Value.ref (s.heap.objs.size + 1) :: (us ++ ds)) := .cons rfl (r.append hd)
  have many : (Value.ref (s.heap.objs.size + 1) :: us ++ ds).length = ps.length := both.length ▸ F.len _ _ _ _ q
  have go := F.run (X.A.under (Code.builtin "type.__call__" ⟨.ref C :: us, []⟩)) X.stack _ _ ⟨Value.ref (s.heap.objs.size + 1) :: us, []⟩ (Value.ref (s.heap.objs.size + 1) :: (us ++ ds)) _ _ E g (hr.make C us []) (J.env0.make C us []) (hb _ (Value.ref (s.heap.objs.size + 1) :: us) J.kIn many) both q
  refine wpAny_call (make_map (f := f) I.kIn M.makes M.init (beq_iff_eq.mp M.fn) (codeAny_mono go ?_))
  intro res s' done
  match res, done with
  | .error e, done => exact hx pins σ _ _ e s' J done
  | .ok (.ret u), done =>
    obtain ⟨v, H', I3, rv, ev, q3⟩ := J.after done
    subst ev
    exact ⟨rv, ⟨V.ref (s.heap.objs.size + 1), H', I3, rfl, q3⟩⟩
  | .ok .next, done => exact done.elim
  | .ok .brk, done => exact done.elim
  | .ok .cont, done => exact done.elim
theorem pe_mkG (M : Mk X.K C f) (F : FnG X.prog X.w X.K X.mg X.base CX k f fd ps sp) (g : Gd X.A) (hr : Room (k + 1) X.A) (hg : Gl X x) (hm : X.mg x = some (.ref C))
    (hb : Binds X.K fd ps ds) (hd : Vals dvs ds) (hx : Passes CX X E) (ha : PA X (e :: es) t)
    (hdb : (x == ("__debug__" : Str)) = false := by decide) (he : starEach (e :: es) X.env = (false, eval e X.env) :: starEach es X.env := by rfl)
    (hpl : (backTo pos (starEach es X.env)).any (·.1) = false := by rfl) :
    PE X (.Call (.Name x p) (e :: es) [] pos) (tMake C sp dvs E t) :=
  ⟨fun pins s σ H Q I h => wpAny_Call_Name_kw (ld_glob I hg hm (PySem.W.callWith_K (h₀ := X.base) I.ok.mod.kin M.kp
    (thn (ha.run pos pins s σ H _ I h) fun us s1 ⟨vs, H1, I1, r, q⟩ => ⟨I1.kIn, goMake M F g hr hb hd hx I1 r q⟩) he hpl) hdb)⟩
end

/-! ## objects as data -/
theorem zipL {H : Hp} {Ex : Addr → Prop} {f : Str} {d : D} : ∀ {ns : List Str} {vs : List V} {ds : List D}, DqL H Ex vs ds → vs.length = ns.length → (ns.zip ds).lookup f = some d → ∃ v, (ns.zip vs).lookup f = some v ∧ Dq H Ex v d
  | [], _, _, _, _, l => by simp at l
  | n :: ns, _, _, .nil, e, _ => by simp at e
  | n :: ns, _, _, .cons (v := v) (d := d0) h t, e, l => by
    rw [List.zip_cons_cons, List.lookup_cons] at l ⊢
    by_cases q : f == n
    · rw [q] at l ⊢
      cases l
      exact ⟨v, rfl, h⟩
    · rw [Bool.not_eq_true] at q
      rw [q] at l ⊢
      exact zipL t (by simpa using e) l
theorem zipN {f : Str} : ∀ {ns : List Str} {vs : List V}, ns.contains f = false → (ns.zip vs).lookup f = none
  | [], _, _ => by simp
  | n :: ns, [], _ => by simp
  | n :: ns, v :: vs, h => by
    rw [List.contains_cons, Bool.or_eq_false_iff] at h
    rw [List.zip_cons_cons, List.lookup_cons, h.1]
    exact zipN h.2
section
variable {X : Cx} {W : Wo} {e o : Expr} {es : List Expr} {pos apos : Pos} {ta : DT W} {tl : DA W} {C : Addr} {f : Str}
/-- e.f -/
def dFld {W : Wo} (C : Addr) (f : Str) (ta : DT W) : DT W := fun ρ ω Q => ta ρ ω fun x ω1 => ∃ ns ds d, x = .obj C ns ds ∧ (ns.zip ds).lookup f = some d ∧ Q d ω1
theorem de_fld (c : Cls X.K C) (n : NoAttr X.K C f) (ha : DE X W e ta) (hb : attributeBase e f X.env (eval e X.env) = eval e X.env := by rfl) : DE X W (.Attribute e f pos) (dFld C f ta) :=
  DX.of (pe_fld ha.pe hb) fun B Ex ρ ω σ H Q rep q => ⟨B, Ex, ρ, ω, _, rep, q, fun d ω1 v H1 ⟨ns, ds, d', e, l, q'⟩ k w z => by
    subst e
    cases z with
    | obj h1 h2 h3 h4 =>
      obtain ⟨v', lv, dv⟩ := zipL h4 h3 l
      exact ⟨_, C, _, _, v', rfl, h1, c, n, lv, d', ω1, k, w, dv, q'⟩⟩
/-- o.m(e, ..) -/
def dMeth {W : Wo} (C : Addr) (m : Str) (S : Spd W) (dds : List D) (ta : DT W) (tl : DA W) : DT W := fun ρ ω Q => ta ρ ω fun x ω1 => (∃ ns ds, x = .obj C ns ds ∧ ns.contains m = false) ∧ tl ρ ω1 fun as ω2 => S (x :: (as ++ dds)) ω2 Q
theorem de_meth {pl : Sem Bool} {k : Nat} {fa : Addr} {fd : FuncData} {ps : List Str} {S : Spd W} {dvs : List V} {dds : List D} {dus : List Value} {m : Str} (F : FnG X.prog X.w X.K X.mg X.base CX0 k fa fd ps (spOf W S)) (g : Gd X.A) (hr : Room k X.A)
    (c : Cls X.K C) (hm : Meth X.K C m fa) (hb : Binds X.K fd ps dus) (hd : Vals dvs dus) (hf : Paired Flat dvs dds) (ho : DE X W o ta) (ha : DL X W (e :: es) tl)
    (hst : starEach (e :: es) X.env = (false, eval e X.env) :: starEach es X.env := by rfl) (hpl : (backTo pos (starEach es X.env)).any (·.1) = false := by rfl)
    (ht : eval (.Call (.Attribute o m apos) (e :: es) [] pos) X.env = (do
      let ov ← eval o X.env
      standAt apos.atName
      let (fn, first) ← holding [ov] (getMethod ov m pl)
      callWith pos fn first (backTo pos (starEach (e :: es) X.env)) (backToKw pos (keywordEach [] X.env))) := by rfl) :
    DE X W (.Call (.Attribute o m apos) (e :: es) [] pos) (dMeth C m S dds ta tl) :=
  DX.of (pe_mG ho.pe c hm F g hr hb hd pass0 ha.pa hst hpl ht) fun B Ex ρ ω σ H Q rep q => ⟨B, Ex, ρ, ω, _, rep, q, fun d ω1 v H1 ⟨⟨ns, ds, e, nc⟩, q1⟩ k1 w1 z1 => by
    subst e
    have r1 := rep.go k1 w1
    obtain ⟨a, dx, vs, rfl, h1, h2, h3, h4⟩ := (Bq.of (W := W) z1).ofJ
    refine ⟨a, dx, _, rfl, h1, zipN nc, B, Ex, ρ, ω1, _, r1, q1, fun as ω2 us H2 q2 k2 w2 z2 => ?_⟩
    have r2 := r1.go k2 w2
    exact ⟨Ex, ω2, _ :: (as ++ dds), Q, w2, fun _ m => rep.muEx m, r2.tr, .cons (r1.keep k2 z1) (z2.append (flats hf)), q2, fun d ω3 v H3 q3 k3 w3 z3 => ⟨d, ω3, (k1.trans k2).trans k3, w3, z3, q3⟩⟩⟩
theorem de_meth0 {pl : Sem Bool} {k : Nat} {fa : Addr} {fd : FuncData} {ps : List Str} {S : Spd W} {dvs : List V} {dds : List D} {dus : List Value} {m : Str} (F : FnG X.prog X.w X.K X.mg X.base CX0 k fa fd ps (spOf W S)) (g : Gd X.A) (hr : Room k X.A)
    (c : Cls X.K C) (hm : Meth X.K C m fa) (hb : Binds X.K fd ps dus) (hd : Vals dvs dus) (hf : Paired Flat dvs dds) (ho : DE X W o ta)
    (ht : eval (.Call (.Attribute o m apos) [] [] pos) X.env = (do
      let ov ← eval o X.env
      standAt apos.atName
      let (fn, first) ← holding [ov] (getMethod ov m pl)
      callWith pos fn first (backTo pos (starEach [] X.env)) (backToKw pos (keywordEach [] X.env))) := by rfl) :
    DE X W (.Call (.Attribute o m apos) [] [] pos) (dMeth C m S dds ta dNil) :=
  DX.of (pe_mG0 ho.pe c hm F g hr hb hd pass0 ht) fun B Ex ρ ω σ H Q rep q => ⟨B, Ex, ρ, ω, _, rep, q, fun d ω1 v H1 ⟨⟨ns, ds, e, nc⟩, q1⟩ k1 w1 z1 => by
    subst e
    have r1 := rep.go k1 w1
    obtain ⟨a, dx, vs, rfl, h1, h2, h3, h4⟩ := (Bq.of (W := W) z1).ofJ
    refine ⟨a, dx, _, rfl, h1, zipN nc, ?_⟩
    exact ⟨Ex, ω1, _ :: ([] ++ dds), Q, w1, fun _ m => rep.muEx m, r1.tr, .cons z1 (show DqL _ _ ([] ++ dvs) ([] ++ dds) from flats hf), q1, fun d ω3 v H3 q3 k3 w3 z3 => ⟨d, ω3, k1.trans k3, w3, z3, q3⟩⟩⟩
/-- what an __init__ promises: the fields -/
abbrev SpI (W : Wo) := List D → W.Om → (List Str → List D → W.Om → Prop) → Prop
def spI (W : Wo) (C : Addr) (S : SpI W) : Sp := fun vs H Q _ => ∃ (x dx : Addr) (as : List V) (Ex : Addr → Prop) (ω : W.Om) (ds : List D) (Q0 : List Str → List D → W.Om → Prop), vs = .ref x :: as ∧ H x = some (.ins C dx []) ∧ W.at (fun b => Ex b ∨ b = x) ω H ∧ (∀ a, W.Mu a → Ex a) ∧ (∀ a, Ex a → H a ≠ none) ∧ ¬ Ex x ∧
  DqL H (fun b => Ex b ∨ b = x) as ds ∧ S ds ω Q0 ∧ ∀ ns fs ws ω' H', Q0 ns fs ω' → (∀ b o, H b = some o → b ≠ x → ¬ W.Mu b → H' b = some o) → W.at (fun b => Ex b ∨ b = x) ω' H' →
    H' x = some (.ins C dx (ns.zip ws)) → ws.length = ns.length → DqL H' (fun b => Ex b ∨ b = x) ws fs → Q .non H'
/-- C(e, ..) -/
def dMake {W : Wo} (C : Addr) (S : SpI W) (dds : List D) (tl : DA W) : DT W := fun ρ ω Q => tl ρ ω fun as ω1 => S (as ++ dds) ω1 fun ns ds ω2 => Q (.obj C ns ds) ω2
theorem de_make {k : Nat} {fa : Addr} {fd : FuncData} {ps : List Str} {S : SpI W} {dvs : List V} {dds : List D} {dus : List Value} {x : Str} {p : Pos} (F : FnG X.prog X.w X.K X.mg X.base CX0 k fa fd ps (spI W C S)) (g : Gd X.A) (hr : Room (k + 1) X.A)
    (M : Mk X.K C fa) (hg : Gl X x) (hm : X.mg x = some (.ref C)) (hb : Binds X.K fd ps dus) (hd : Vals dvs dus) (hf : Paired Flat dvs dds) (ha : DL X W (e :: es) tl)
    (hdb : (x == ("__debug__" : Str)) = false := by decide) (he : starEach (e :: es) X.env = (false, eval e X.env) :: starEach es X.env := by rfl) (hpl : (backTo pos (starEach es X.env)).any (·.1) = false := by rfl) :
    DE X W (.Call (.Name x p) (e :: es) [] pos) (dMake C S dds tl) :=
  DX.of (pe_mkG M F g hr hg hm hb hd pass0 ha.pa hdb he hpl) fun B Ex ρ ω σ H Q rep q => ⟨B, Ex, ρ, ω, _, rep, q, fun as ω1 us H1 q1 k1 w1 z1 y dy ny ndy nd => by
    have r1 := rep.go k1 w1
    have s1 : Same H1 (upd H1 dy (.own y)) := same_upd ndy
    have ny' : (upd H1 dy (.own y)) y = none := by rw [upd_ne (Ne.symm nd)]; exact ny
    have s2 : Same H1 (upd (upd H1 dy (.own y)) y (.ins C dy [])) := fun b o e => same_upd ny' b o (s1 b o e)
    have nE : ¬ Ex y := r1.new ny
    have w1' : W.at (fun b => Ex b ∨ b = y) ω1 H1 := W.le w1 fun b m => m.elim .inl fun z => .inr (by rw [z]; exact ny)
    refine ⟨y, dy, us ++ dvs, Ex, ω1, as ++ dds, _, rfl, upd_same, W.gr w1' s2, fun _ m => rep.muEx m, fun a m => ?_, nE, ?_, q1, fun ns fs ws ω2 H2 q2 k2 w2 hx hl dl => ?_⟩
    · cases ea : H1 a with
      | none => exact absurd ea (r1.tr a m)
      | some u => rw [s2 a u ea]; exact fun z => nomatch z
    · refine DqL.append (z1.to fun a o e n => ⟨s2 a o e, fun m => m.elim n fun z => ?_⟩) (flats hf)
      rw [z, ny] at e
      cases e
    · refine ⟨rfl, .obj C ns fs, ω2, fun b o e m => k2 b o (s2 b o (k1 b o e m)) (fun z => ?_) m, W.le w2 fun b m => .inl (.inl m), .obj hx nE hl (dl.to fun a o e n => ⟨e, fun m => n (.inl m)⟩), q2⟩
      have := k1 b o e m
      rw [z, ny] at this
      cases this⟩
end

/-! ## an __init__, read over data -/
/-- the world beside the object that is being made -/
def SelfW (W : Wo) (C x dx : Addr) : Wo where
  Om := W.Om × List Str × List D
  Mu := fun a => W.Mu a ∨ a = x
  ok := fun ω N H => W.ok ω.1 (fun b => N b ∨ b = x) H ∧ ¬ N x ∧ ∃ vs, H x = some (.ins C dx (ω.2.1.zip vs)) ∧ vs.length = ω.2.1.length ∧ DqL H (fun b => N b ∨ W.Mu b ∨ b = x) vs ω.2.2
  grow := fun {ω N H H'} ⟨h, n, vs, hx, hl, d⟩ k => ⟨W.grow h fun b o e m => k b o e fun z => m (.inl z), n, vs, k _ _ hx n, hl, d.to fun a o e m => ⟨k a o e fun z => m (.inl z), m⟩⟩
  less := fun {ω N N' H} ⟨h, n, vs, hx, hl, d⟩ s => by
    refine ⟨W.less h fun b m => ?_, fun m => (s x m).elim n fun z => ?_, vs, hx, hl, d.to fun a o e m => ⟨e, fun z => ?_⟩⟩
    · rcases m with m | m
      · exact (s b m).elim (fun z => .inl (.inl z)) .inr
      · exact .inl (.inr m)
    · rw [z] at hx; cases hx
    · rcases z with z | z
      · rcases s a z with y | y
        · exact m (.inl y)
        · rw [y] at e; cases e
      · exact m (.inr z)
  trk := fun {ω N H a} ⟨h, n, vs, hx, hl, d⟩ m => by
    rcases m with m | m
    · exact W.trk h m
    · subst m; rw [hx]; exact fun z => nomatch z
instance {W : Wo} {C x dx : Addr} : Free (SelfW W C x dx) := ⟨fun _ _ _ => trivial⟩
theorem putF_new {f : Str} {v : V} : ∀ {fs : List (Str × V)}, (fs.map (·.1)).contains f = false → putF f v fs = fs ++ [(f, v)]
  | [], _ => rfl
  | (g, x) :: r, h => by
    rw [List.map_cons, List.contains_cons, Bool.or_eq_false_iff] at h
    have ne : ¬ (g = f) := fun e => by
      have := h.1
      rw [show f = g from e.symm] at this
      simp at this
    show (if g = f then _ else _) = _
    rw [if_neg ne, putF_new h.2]
    rfl
theorem zip_snoc {α β : Type} {n : α} {v : β} : ∀ {ns : List α} {vs : List β}, vs.length = ns.length → (ns ++ [n]).zip (vs ++ [v]) = ns.zip vs ++ [(n, v)]
  | [], [], _ => rfl
  | [], _ :: _, h => by simp at h
  | _ :: _, [], h => by simp at h
  | a :: ns, b :: vs, h => by
    rw [List.cons_append, List.cons_append, List.zip_cons_cons, zip_snoc (by simpa using h), List.zip_cons_cons, List.cons_append]
theorem zip_keys1 {ns : List Str} {vs : List V} (h : vs.length = ns.length) : (ns.zip vs).map (·.1) = ns := by
  have : (ns.zip vs).map Prod.fst = ns := List.map_fst_zip (by omega)
  exact this
section
variable {X : Cx} {W : Wo} {C x dx : Addr} {e o : Expr} {pos p' : Pos} {f : Str} {to te : DT (SelfW W C x dx)}
/-- self.f = e, the first time -/
def dSetF {W : Wo} {C x dx : Addr} (f : Str) (to te : DT (SelfW W C x dx)) : DTS (SelfW W C x dx) := fun D0 ρ ω => te ρ ω fun d ω1 => to ρ ω1 fun s ω2 => s = .ob x ∧ ω2.2.1.contains f = false ∧ ω2.2.1.length < 900 ∧ D0.nx ρ (ω2.1, ω2.2.1 ++ [f], ω2.2.2 ++ [d])
theorem ds_setF (c : Cls X.K C) (n : NoAttr X.K C f) (ho : DE X (SelfW W C x dx) o to) (h : DE X (SelfW W C x dx) e te) (hs : swapsWith e (some (.Attribute o f p')) pos.line X.env = pure false := by rfl) :
    DS X (SelfW W C x dx) (.Assign [.Attribute o f p'] e pos) (dSetF f to te) :=
  DS.of (ps_fld ho.pe h.pe hs) fun B Ex ρ ω σ H D0 rep q => ⟨B, Ex, ρ, ω, _, rep, q, fun d ω1 v H1 q1 k1 w1 z1 => ⟨B, Ex, ρ, ω1, _, rep.go k1 w1, q1, fun s ω2 u H2 ⟨e2, nc, hl, q2⟩ k2 w2 z2 => by
    subst e2
    have r1 := rep.go k1 w1
    have r2 := r1.go k2 w2
    have z1' := r1.keep k2 z1
    cases z2
    obtain ⟨h1, h2, vs, hx, hlen, dl⟩ := w2
    have hm : (List.map (·.1) (ω2.2.1.zip vs)).contains f = false := by rw [zip_keys1 hlen]; exact nc
    have exX : Ex x := rep.muEx (.inr rfl)
    refine ⟨x, C, dx, ω2.2.1.zip vs, rfl, hx, c, n, ?_, ?_⟩
    · rw [List.length_zip]; omega
    · rw [putF_new hm, ← zip_snoc hlen]
      have keep : ∀ b u, H2 b = some u → b ≠ x → (upd H2 x (.ins C dx ((ω2.2.1 ++ [f]).zip (vs ++ [v])))) b = some u := fun b u e n => by rw [upd_ne n]; exact e
      have kp : Kp (SelfW W C x dx) H2 (upd H2 x (.ins C dx ((ω2.2.1 ++ [f]).zip (vs ++ [v])))) := fun b u e m => keep b u e fun z => m (.inr z)
      have w3 : (SelfW W C x dx).at Ex (ω2.1, ω2.2.1 ++ [f], ω2.2.2 ++ [d]) (upd H2 x (.ins C dx ((ω2.2.1 ++ [f]).zip (vs ++ [v])))) := by
        refine ⟨W.grow h1 fun b u e m => keep b u e fun z => m (.inr z), h2, vs ++ [v], upd_same, by simp [hlen], ?_⟩
        refine DqL.append (dl.to fun a u e m => ⟨keep a u e fun z => m (.inr (.inr z)), m⟩) (.cons (z1'.to fun a u e m => ⟨keep a u e fun z => m (by rw [z]; exact exX), fun z => ?_⟩) .nil)
        rcases z with z | z | z
        · exact m z.1
        · exact m (rep.muEx (.inl z))
        · exact m (by rw [z]; exact exX)
      exact ⟨Ex, ρ, _, (rep.stp (k1.trans (k2.trans kp)) w3), r2.go kp w3, q2⟩⟩⟩
end
/-- an __init__ of the text, by its body read over data -/
theorem okI {P : Program} {w : World} {K : PySem.W.Frag} {mg : Str → Option Value} {base : Heap} {W : Wo} {C : Addr} {x qual : Str} {st : Stmt} {f : Addr} {fd : FuncData} {N ps : List Str} {k : Nat} {S : SpI W} (F : Fun K x qual st f fd) (Sc : FnScope N ps (defScope st))
    (len : ∀ ds ω Q, S ds ω Q → ds.length + 1 = ps.length)
    (hbody : ∀ (cdv : Value) (A : Around) (outer : List Env) (s : Shared) (H : Hp) (E : XK) (y dy : Addr) (ds : List D) (ω : W.Om) (Q : List Str → List D → W.Om → Prop), Gd A → Room k (A.deeper (envOfC qual (defScope st) s.heap.objs.size f cdv)) → S ds ω Q →
      ∃ t, DSs (cxOf CX0 P w K mg base N qual (defScope st) f cdv A outer s H E).nox (SelfW W C y dy) (defBody st) t ∧ t { nx := fun _ ω' => Q ω'.2.1 ω'.2.2 ω'.1, rt := fun _ _ => False } (startD N (.ob y :: ds)) (ω, [], [])) :
    FnG P w K mg base CX0 (k + 1) f fd ps (spI W C S) := by
  refine okG F Sc (fun vs H Q E ⟨y, dy, as, Ex, ω, ds, Q0, e, _, _, _, _, _, q, h, _⟩ => by rw [e, List.length_cons, q.length]; exact len _ _ _ h) fun cdv A outer s H vs Q E g hr ⟨y, dy, as, Ex, ω, ds, Q0, e, hx, wo, mu, tr, nE, q, h, fin⟩ => ?_
  subst e
  obtain ⟨t, h1, h2⟩ := hbody cdv A outer s H E y dy ds ω Q0 g hr h
  have nMu : ¬ W.Mu y := fun m => nE (mu y m)
  have wo' : (SelfW W C y dy).at (fun b => Ex b ∨ b = y) (ω, [], []) H :=
    ⟨W.less wo fun b m => by
      rcases m with ⟨m, n⟩ | m
      · exact .inl ⟨m, fun z => n (.inl z)⟩
      · exact .inl ⟨.inr m, by rw [m]; exact nMu⟩, fun m => m.2 (.inr rfl), [], hx, rfl, .nil⟩
  refine ⟨_, h1.pss, ⟨H, fun b => Ex b ∨ b = y⟩, fun b => Ex b ∨ b = y, _, (ω, [], []), _, rep_start wo' (fun a m => m.elim (fun m => .inl (mu a m)) .inr) (fun a m => ?_) (.cons (.ob y) q) (Free.bb _ _ _), h2,
    ⟨fun σ' H' ⟨Ex', ρ', ω', s', r, z⟩ => ?_, fun v H' ⟨d, ω', k, w, z, q'⟩ => q'.elim, fun σ' H' ⟨_, _, _, _, _, z⟩ => z.elim, fun σ' H' ⟨_, _, _, _, _, z⟩ => z.elim⟩⟩
  · rcases m with m | m
    · exact tr a m
    · rw [show a = y from m, hx]; exact fun z => nomatch z
  · obtain ⟨g1, g2, ws, gx, gl, gd⟩ := r.wo
    refine fin _ _ ws ω'.1 H' z (fun b o e n m => r.kp b o e fun z => z.elim m n) (W.less g1 fun b m => ?_) gx gl (gd.to fun a o e n => ⟨e, fun m => n ?_⟩)
    · by_cases e : b = y
      · exact .inl (.inr e)
      · exact .inl (.inl ⟨r.sub b m.1, fun z => z.elim m.2 e⟩)
    · by_cases e : a = y
      · exact .inr (.inr e)
      · by_cases e2 : W.Mu a
        · exact .inr (.inl e2)
        · exact .inl ⟨r.sub a m, fun z => z.elim e2 e⟩
end Tk

namespace Tk
open PySem PySem.Spec PyProof.Rows L2

/-! ## methods of built-in things: o.m(e) -/
/-- of what built-in class a value is, where its object has no dict -/
def tyK (K : PySem.W.Frag) (T : String) (x : V) (H : Hp) : Prop := match x with
  | .str _ => T = "str"
  | .ref p => (T = "list" ∧ ∃ xs, SqL K H p xs) ∨ (T = "tuple" ∧ ∃ xs, TupF H p xs)
  | _ => False
section
variable {X : Cx} {W : Wo} {o e e2 : Expr} {es : List Expr} {pos apos cpos : Pos} {to te : TE} {t : TA} {T id : String} {name : Str} {r : V → List V → Hp → VK → Prop}
theorem tyK_is {pins : List (Addr × Obj)} {σ : List (Option V)} {H : Hp} {s : Shared} {x : V} {v : Value} (I : Inv X pins σ H s) (rx : RelV x v) (ty : tyK X.K T x H) :
    s.TypeIs v T ∧ ∀ a, v = .ref a → ∃ ob, s.heap.get? a = some ob ∧ ob.dict = none := by
  cases x with
  | str z =>
    obtain ⟨k, rfl⟩ := rx
    cases (show T = "str" from ty)
    exact ⟨typeIs_str s z k, fun _ e => nomatch e⟩
  | ref p =>
    cases rx
    rcases ty with ⟨rfl, xs, h⟩ | ⟨rfl, xs, ob, h, hd⟩
    · exact tyV_is (x := .ref p) (T := "list") I rfl (.inl ⟨rfl, xs, h⟩)
    · obtain ⟨g, z, its, rv, ob2, g2, hc, _⟩ := I.hok p _ h
      have e : ob2 = ob := Option.some.inj (g2.symm.trans g)
      subst e
      exact ⟨⟨_, g, hc⟩, fun a e => by cases e; exact ⟨_, g, hd⟩⟩
  | _ => exact False.elim ty
def tMt (K : PySem.W.Frag) (T : String) (r : V → List V → Hp → VK → Prop) (to : TE) (t : TA) : TE := fun σ H Q => to σ H fun x H1 => tyK K T x H1 ∧ t σ H1 fun xs H2 => r x xs H2 Q
theorem pe_mt (pa : PlainAttrs T) (slot : Slot T name id) (hty : typeOf (.builtin id) = pure (.type "method_descriptor")) (hm : MtR X id r) (ho : PE X o to) (ha : PA X (e :: es) t)
    (hbase : attributeBase o name X.env (eval o X.env) = eval o X.env := by rfl)
    (hfew : ((backTo cpos (starEach (e :: es) X.env)).all (fun x => !x.1) && (backToKw cpos (keywordEach [] X.env)).all (fun x => x.1.isSome) && decide ((e :: es).length + ([] : List Keyword).length + (if ([] : List Keyword).isEmpty then 0 else 1) < 30)) = true := by rfl)
    (hline : (apos.endLine == cpos.line) = true := by rfl) (hs : starEach (e :: es) X.env = (false, eval e X.env) :: starEach es X.env := by rfl) (hplain : (backTo cpos (starEach es X.env)).any (·.1) = false := by rfl) :
    PE X (.Call (.Attribute o name apos) (e :: es) [] cpos) (tMt X.K T r to t) := by
  constructor
  intro pins s σ H Q I h
  refine wpAny_Call_method_late hbase hfew hline rfl (thn (ho.run pins s σ H _ I h) ?_)
  rintro v s1 ⟨x, H1, I1, r1, ty, q1⟩
  obtain ⟨h1, h2⟩ := tyK_is I1 r1 ty
  refine ⟨T, id, pa, slot, hty, h1, h2, ?_⟩
  have go := ha.run cpos pins s1 σ H1 _ I1 q1
  rw [hs] at go ⊢
  refine Calls.callWith_builtin (by show (false || (backTo cpos (starEach es X.env)).any (·.1)) = false; rw [hplain] <;> rfl) (Calls.evalArgs_plain ?_)
  exact thn go fun us s2 ⟨vs, H2, I2, r2, q2⟩ => hm pins s2 σ H2 x vs v us Q I2 r1 r2 q2
end
/-- a method with one argument, as data -/
def M2 (X : Cx) (W : Wo) (T id : String) (g : D → D → Option D) : Prop :=
  ∃ r, MtR X id r ∧ ∀ {H : Hp} {Ex : Addr → Prop} {x : V} {dx : D}, Bq W H Ex x dx → (∃ dy z, g dx dy = some z) → tyK X.K T x H ∧
    ∀ {y : V} {dy z : D} {Q : VK} {H' : Hp}, (∀ a, Ex a → H' a ≠ none) → Bq W H' Ex x dx → Bq W H' Ex y dy → g dx dy = some z → (∀ v H2, Same H' H2 → Dq H2 Ex v z → Q v H2) → r x [y] H' Q
section
variable {R S : RQ} {X : Cx} {W : Wo} {o e : Expr} {pos apos cpos : Pos} {to te : DT W} {T id : String} {name : Str} {g : D → D → Option D}
/-- o.m(e) -/
def dM2 {W : Wo} (g : D → D → Option D) (to te : DT W) : DT W := fun ρ ω Q => to ρ ω fun x ω1 => (∃ dy z, g x dy = some z) ∧ te ρ ω1 fun y ω2 => ∃ z, g x y = some z ∧ Q z ω2
theorem de_m2 [Stab R] [Stab S] (pa : PlainAttrs T) (slot : Slot T name id) (hty : typeOf (.builtin id) = pure (.type "method_descriptor")) (hm : M2 X W T id g) (ho : DX R X W o to) (he : DX S X W e te)
    (hbase : attributeBase o name X.env (eval o X.env) = eval o X.env := by rfl)
    (hfew : ((backTo cpos (starEach [e] X.env)).all (fun x => !x.1) && (backToKw cpos (keywordEach [] X.env)).all (fun x => x.1.isSome) && decide (([e]).length + ([] : List Keyword).length + (if ([] : List Keyword).isEmpty then 0 else 1) < 30)) = true := by rfl)
    (hline : (apos.endLine == cpos.line) = true := by rfl) (hs : starEach [e] X.env = (false, eval e X.env) :: starEach [] X.env := by rfl) (hplain : (backTo cpos (starEach [] X.env)).any (·.1) = false := by rfl) :
    DE X W (.Call (.Attribute o name apos) [e] [] cpos) (dM2 g to te) := by
  obtain ⟨r, h1, h2⟩ := hm
  refine DX.of (pe_mt pa slot hty h1 ho.pe (pa_cons he.pe pa_nil hs) hbase hfew hline hs hplain) fun B Ex ρ ω σ H Q rep q => ⟨B, Ex, ρ, ω, _, rep, q, fun dx ω1 x H1 ⟨w0, q1⟩ k1 w1 z1 => ?_⟩
  have r1 := rep.go k1 w1
  obtain ⟨ty, go⟩ := h2 (Stab.bq z1) w0
  refine ⟨ty, B, Ex, ρ, ω1, _, r1, q1, fun dy ω2 y H2 ⟨z, e, q2⟩ k2 w2 z2 => ?_⟩
  exact go (r1.go k2 w2).tr (Stab.bq (Stab.keep (fun _ m => rep.muEx m) k2 z1)) (Stab.bq z2) e fun v H3 sm dz => ⟨z, ω2, (k1.trans k2).trans (Kp.same sm), W.gr w2 sm, dz, q2⟩
end
/-- the texts of a list of data -/
def strsD : List D → Option (List Str)
  | [] => some []
  | .str x :: ds => (strsD ds).map fun r => x :: r
  | _ => none
theorem strs_ok {H : Hp} {Ex : Addr → Prop} : ∀ {vs : List V} {ds : List D} {ys : List Str}, DqL H Ex vs ds → strsD ds = some ys → vs = ys.map V.str
  | _, _, _, .nil, e => by cases e; rfl
  | _, d :: ds, ys, .cons (v := v) h t, e => by
    cases d with
    | str x =>
      have e' : (strsD ds).map (fun r => x :: r) = some ys := e
      cases q : strsD ds with
      | none => rw [q] at e'; cases e'
      | some r =>
        rw [q] at e'
        cases e'
        cases h
        rw [strs_ok t q]
        rfl
    | _ => cases e
theorem strsD_map (ys : List Str) : strsD (ys.map D.str) = some ys := by
  induction ys with
  | nil => rfl
  | cons y ys ih =>
    show (strsD (ys.map D.str)).map _ = _
    rw [ih]
    rfl
/-- sep.join(xs) -/
def joinD : D → D → Option D
  | .str a, .lst xs => (strsD xs).bind fun ys => if (ys.map (·.length)).sum + ys.length * a.length ≤ 16777216 then some (.str (Txt.join a ys)) else none
  | .str a, .tup xs => (strsD xs).bind fun ys => if (ys.map (·.length)).sum + ys.length * a.length ≤ 16777216 then some (.str (Txt.join a ys)) else none
  | _, _ => none
theorem m_join {X : Cx} {W : Wo} : M2 X W "str" "str.join" joinD := by
  refine ⟨_, mt_join, fun {H Ex x dx} hx w0 => ?_⟩
  obtain ⟨dy0, z0, e0⟩ := w0
  have hs : ∃ a, dx = .str a := by
    cases dx <;> first | exact ⟨_, rfl⟩ | (simp [joinD] at e0)
  obtain ⟨a, rfl⟩ := hs
  have ex := hx.ofS
  subst ex
  refine ⟨rfl, fun {y dy z Q H'} tr hx' hy e k => ?_⟩
  unfold joinD at e
  split at e
  · rename_i a' xs ea
    cases ea
    obtain ⟨p, vs, rfl, h1, h2⟩ := hy.ofL
    cases q : strsD xs with
    | none => rw [q] at e; cases e
    | some ys =>
      rw [q] at e
      have e' : (if (ys.map (·.length)).sum + ys.length * a.length ≤ 16777216 then some (D.str (Txt.join a ys)) else none) = some z := e
      split at e'
      · rename_i hl
        cases e'
        have := strs_ok h2 q
        subst this
        exact ⟨a, p, ys, rfl, rfl, .inl (SqL.of h1), hl, k _ _ (Same.refl _) (.str _)⟩
      · cases e'
  · rename_i a' xs ea
    cases ea
    obtain ⟨p, vs, rfl, h1, _, h2⟩ := hy.ofT
    cases q : strsD xs with
    | none => rw [q] at e; cases e
    | some ys =>
      rw [q] at e
      have e' : (if (ys.map (·.length)).sum + ys.length * a.length ≤ 16777216 then some (D.str (Txt.join a ys)) else none) = some z := e
      split at e'
      · rename_i hl
        cases e'
        have := strs_ok h2 q
        subst this
        exact ⟨a, p, ys, rfl, rfl, .inr h1.sq, hl, k _ _ (Same.refl _) (.str _)⟩
      · cases e'
  · cases e
/-- the first place of y in xs -/
def idxF (y : D) : List D → Option Nat
  | [] => none
  | x :: xs => if eqv x y = true then some 0 else (idxF y xs).map (· + 1)
theorem idxF_ok {y : D} : ∀ {xs : List D} {j : Nat}, idxF y xs = some j → (∃ z, xs[j]? = some z ∧ eqv z y = true) ∧ ∀ (m : Nat) (z : D), m < j → xs[m]? = some z → eqv z y = false
  | [], _, e => by cases e
  | x :: xs, j, e => by
    unfold idxF at e
    by_cases h : eqv x y = true
    · rw [if_pos h] at e
      cases e
      exact ⟨⟨x, rfl, h⟩, fun m z hm _ => absurd hm (Nat.not_lt_zero _)⟩
    · rw [if_neg h] at e
      cases q : idxF y xs with
      | none => rw [q] at e; cases e
      | some i =>
        rw [q] at e
        cases e
        obtain ⟨⟨z, h1, h2⟩, h3⟩ := idxF_ok q
        refine ⟨⟨z, by simpa using h1, h2⟩, fun m z' hm hz => ?_⟩
        cases m with
        | zero =>
          have : x = z' := by simpa using hz
          rw [← this]
          exact Bool.not_eq_true _ ▸ h
        | succ m => exact h3 m z' (Nat.lt_of_succ_lt_succ (show m + 1 < i + 1 from hm)) (by simpa using hz)
/-- xs.index(y), flat things in a list -/
def idxL : D → D → Option D
  | .lst xs, y => if (flt y && xs.all flt) = true then (idxF y xs).map fun j => .int (j : Nat) else none
  | _, _ => none
/-- t.index(y), texts in a tuple -/
def idxT : D → D → Option D
  | .tup xs, .str y => if (strsD xs).isSome = true then (idxF (.str y) xs).map fun j => .int (j : Nat) else none
  | _, _ => none
theorem m_index {X : Cx} {W : Wo} : M2 X W "list" "list.index" idxL := by
  refine ⟨_, mt_index, fun {H Ex x dx} hx w0 => ?_⟩
  obtain ⟨dy0, z0, e0⟩ := w0
  have hs : ∃ a, dx = .lst a := by
    cases dx <;> first | exact ⟨_, rfl⟩ | (simp [idxL] at e0)
  obtain ⟨xs, rfl⟩ := hs
  obtain ⟨p, vs, rfl, h1, h2⟩ := hx.ofL
  refine ⟨.inl ⟨rfl, vs, SqL.of h1⟩, fun {y dy z Q H'} tr hx' hy e k => ?_⟩
  obtain ⟨p', vs', ep, h1', h2'⟩ := hx'.ofL
  cases ep
  have e' : (if (flt dy && xs.all flt) = true then (idxF dy xs).map (fun j => D.int (j : Nat)) else none) = some z := e
  split at e'
  · rename_i hf
    rw [Bool.and_eq_true] at hf
    cases q : idxF dy xs with
    | none => rw [q] at e'; cases e'
    | some j =>
      rw [q] at e'
      cases e'
      obtain ⟨⟨w, g1, g2⟩, g3⟩ := idxF_ok q
      have fx : ∀ d ∈ xs, flt d = true := List.all_eq_true.mp hf.2
      have bqAt : ∀ {m : Nat} {v : V}, vs'[m]? = some v → ∃ d, xs[m]? = some d ∧ Dq H' Ex v d := fun hv => h2'.getV hv
      obtain ⟨v, hv, dv⟩ := h2'.get g1
      refine ⟨p, vs', y, j, v, rfl, rfl, SqL.of h1', flt_ok hy hf.1, ?_, hv, ?_, fun m v' hm hv' => ?_, k _ _ (Same.refl _) (.int _)⟩
      · rw [List.all_eq_true]
        intro u hu
        obtain ⟨m, hm, e⟩ := List.mem_iff_getElem.mp hu
        obtain ⟨d, hd, qd⟩ := bqAt (m := m) (v := u) (by rw [List.getElem?_eq_getElem hm, e])
        exact flt_ok (.of (W := W) qd) (fx d (List.mem_of_getElem? hd))
      · rw [eqV_ok (.of (W := W) dv) hy (fx _ (List.mem_of_getElem? g1)) hf.1]; exact g2
      · obtain ⟨d, hd, qd⟩ := bqAt hv'
        rw [eqV_ok (.of (W := W) qd) hy (fx _ (List.mem_of_getElem? hd)) hf.1]
        exact g3 m d hm hd
  · cases e'
theorem eqv_str (a b : Str) : eqv (.str a) (.str b) = decide (a = b) := rfl
theorem strsD_at : ∀ {xs : List D} {ys : List Str}, strsD xs = some ys → xs = ys.map D.str
  | [], _, e => by cases e; rfl
  | d :: ds, ys, e => by
    cases d with
    | str x =>
      have e' : (strsD ds).map (fun r => x :: r) = some ys := e
      cases q : strsD ds with
      | none => rw [q] at e'; cases e'
      | some r =>
        rw [q] at e'
        cases e'
        rw [strsD_at q]
        rfl
    | _ => cases e
theorem m_indexT {X : Cx} {W : Wo} : M2 X W "tuple" "tuple.index" idxT := by
  refine ⟨_, mt_tup_index, fun {H Ex x dx} hx w0 => ?_⟩
  obtain ⟨dy0, z0, e0⟩ := w0
  have hs : ∃ a, dx = .tup a := by
    cases dx <;> first | exact ⟨_, rfl⟩ | (simp [idxT] at e0)
  obtain ⟨xs, rfl⟩ := hs
  obtain ⟨p, vs, rfl, h1, _, h2⟩ := hx.ofT
  refine ⟨.inr ⟨rfl, vs, h1⟩, fun {y dy z Q H'} tr hx' hy e k => ?_⟩
  obtain ⟨p', vs', ep, h1', _, h2'⟩ := hx'.ofT
  cases ep
  have hy' : ∃ b, dy = .str b := by
    cases dy <;> first | exact ⟨_, rfl⟩ | (simp [idxT] at e)
  obtain ⟨b, rfl⟩ := hy'
  have ey := hy.ofS
  subst ey
  have e' : (if (strsD xs).isSome = true then (idxF (.str b) xs).map (fun j => D.int (j : Nat)) else none) = some z := e
  split at e'
  · rename_i hf
    obtain ⟨ys, hys⟩ := Option.isSome_iff_exists.mp hf
    have exs := strsD_at hys
    cases q : idxF (.str b) xs with
    | none => rw [q] at e'; cases e'
    | some j =>
      rw [q] at e'
      cases e'
      obtain ⟨⟨w, g1, g2⟩, g3⟩ := idxF_ok q
      have := strs_ok h2' hys
      subst this
      subst exs
      rw [List.getElem?_map] at g1
      cases hj : ys[j]? with
      | none => rw [hj] at g1; cases g1
      | some u =>
        rw [hj] at g1
        cases g1
        have ub : u = b := of_decide_eq_true g2
        subst ub
        refine ⟨p, ys, u, j, rfl, rfl, h1'.sq, hj, fun m hm hz => ?_, k _ _ (Same.refl _) (.int _)⟩
        have := g3 m (.str u) hm (by rw [List.getElem?_map, hz]; rfl)
        rw [eqv_str, decide_eq_true rfl] at this
        cases this
  · cases e'
theorem de_join [Stab R] [Stab S] {X : Cx} {W : Wo} {o e : Expr} {apos cpos : Pos} {to te : DT W} (ho : DX R X W o to) (he : DX S X W e te)
    (hbase : attributeBase o "join" X.env (eval o X.env) = eval o X.env := by rfl)
    (hfew : ((backTo cpos (starEach [e] X.env)).all (fun x => !x.1) && (backToKw cpos (keywordEach [] X.env)).all (fun x => x.1.isSome) && decide (([e]).length + ([] : List Keyword).length + (if ([] : List Keyword).isEmpty then 0 else 1) < 30)) = true := by rfl)
    (hline : (apos.endLine == cpos.line) = true := by rfl) (hs : starEach [e] X.env = (false, eval e X.env) :: starEach [] X.env := by rfl) (hplain : (backTo cpos (starEach [] X.env)).any (·.1) = false := by rfl) :
    DE X W (.Call (.Attribute o "join" apos) [e] [] cpos) (dM2 joinD to te) := de_m2 PySem.F.plainAttrs_str PySem.F.slot_str_join PySem.F.type_str_join m_join ho he hbase hfew hline hs hplain
theorem de_index [Stab R] [Stab S] {X : Cx} {W : Wo} {o e : Expr} {apos cpos : Pos} {to te : DT W} (ho : DX R X W o to) (he : DX S X W e te)
    (hbase : attributeBase o "index" X.env (eval o X.env) = eval o X.env := by rfl)
    (hfew : ((backTo cpos (starEach [e] X.env)).all (fun x => !x.1) && (backToKw cpos (keywordEach [] X.env)).all (fun x => x.1.isSome) && decide (([e]).length + ([] : List Keyword).length + (if ([] : List Keyword).isEmpty then 0 else 1) < 30)) = true := by rfl)
    (hline : (apos.endLine == cpos.line) = true := by rfl) (hs : starEach [e] X.env = (false, eval e X.env) :: starEach [] X.env := by rfl) (hplain : (backTo cpos (starEach [] X.env)).any (·.1) = false := by rfl) :
    DE X W (.Call (.Attribute o "index" apos) [e] [] cpos) (dM2 idxL to te) := de_m2 PySem.F.plainAttrs_list PySem.F.slot_list_index PySem.F.type_list_index m_index ho he hbase hfew hline hs hplain
theorem de_indexT [Stab R] [Stab S] {X : Cx} {W : Wo} {o e : Expr} {apos cpos : Pos} {to te : DT W} (ho : DX R X W o to) (he : DX S X W e te)
    (hbase : attributeBase o "index" X.env (eval o X.env) = eval o X.env := by rfl)
    (hfew : ((backTo cpos (starEach [e] X.env)).all (fun x => !x.1) && (backToKw cpos (keywordEach [] X.env)).all (fun x => x.1.isSome) && decide (([e]).length + ([] : List Keyword).length + (if ([] : List Keyword).isEmpty then 0 else 1) < 30)) = true := by rfl)
    (hline : (apos.endLine == cpos.line) = true := by rfl) (hs : starEach [e] X.env = (false, eval e X.env) :: starEach [] X.env := by rfl) (hplain : (backTo cpos (starEach [] X.env)).any (·.1) = false := by rfl) :
    DE X W (.Call (.Attribute o "index" apos) [e] [] cpos) (dM2 idxT to te) := de_m2 PySem.F.plainAttrs_tuple PySem.F.slot_tuple_index PySem.F.type_tuple_index m_indexT ho he hbase hfew hline hs hplain
end Tk

namespace Tk
open PySem PySem.Spec PyProof.Rows L2
/-! ## new lists on the way -/
theorem Rep.made {W : Wo} {B : Bs} {Ex : Addr → Prop} {H H' : Hp} {σ : List (Option V)} {ρ : Rho} {ω : W.Om} {Q : Sl → W.Om → Prop} {v : V} (rep : Rep W B Ex H σ ρ ω) (h : PostF W Ex H Q v H') :
    ∃ a z ω', v = .ref a ∧ H a = none ∧ Kp W H H' ∧ Rep W B (fun b => Ex b ∨ b = a) H' σ ρ ω' ∧ Stp Ex H (fun b => Ex b ∨ b = a) H' ∧ isOwn z = true ∧ Own H' (fun b => Ex b ∨ b = a) a z ∧ Q z ω' := by
  obtain ⟨a, z, ω', rfl, n, k, w, hz, ow, q⟩ := h
  have t : H' a ≠ none := by
    cases z with
    | d d => cases hz
    | own ds => obtain ⟨_, vs, e, _⟩ := ow; rw [e]; exact fun z => nomatch z
    | odc ds => obtain ⟨_, vs, e, _⟩ := ow; rw [e]; exact fun z => nomatch z
  exact ⟨a, z, ω', rfl, n, k, rep.shut n k w t, stp_shut rep n k w, hz, ow, q⟩
section
variable {R S : RQ} {X : Cx} {W : Wo} {e a b c : Expr} {es : List Expr} {pos : Pos} {te ta tb tc : DT W} {tl : DA W} {t : DTS W} {sts : List Stmt} {tf : DFt W}
/-- a, b = e1, e2: the second one a new list -/
def dParDF {W : Wo} (i j : Nat) (ta : DT W) (tf : DFt W) : DTS W := fun D0 ρ ω => ta ρ ω fun x ω1 => tf ρ ω1 fun z ω2 => D0.nx ((ρ.set i (some (.d x))).set j (some z)) ω2
theorem ds_parDF {i j : Nat} {x y : Str} {px py pt : Pos} {kt k2 pt2} (hc : X.calm = true) (hN : X.N.Nodup) (hi : X.N[i]? = some x) (hj : X.N[j]? = some y) (hij : i ≠ j)
    (hx : X.env.scope.names.lookup x = some .local) (hy : X.env.scope.names.lookup y = some .local) (ha : DE X W a ta) (hb : DF X W b tf)
    (hw : swappedStores [.Tuple [.Name x px, .Name y py] kt pt] (.Tuple [a, b] k2 pt2) X.env = pure (some [x, y])) (he : starEach [a, b] X.env = (false, eval a X.env) :: starEach [b] X.env := by rfl) (he2 : starEach [b] X.env = (false, eval b X.env) :: starEach [] X.env := by rfl)
    (hs : swapsWithSole [.Tuple [.Name x px, .Name y py] kt pt] (.Tuple [a, b] k2 pt2) pos.line X.env = pure false := by rfl) :
    DS X W (.Assign [.Tuple [.Name x px, .Name y py] kt pt] (.Tuple [a, b] k2 pt2) pos) (dParDF i j ta tf) := by
  obtain ⟨tb', g1, g2⟩ := hb
  refine DS.of (ps_par hc hN hi hj hij hx hy (pa_cons ha.pe (pa_cons g1 pa_nil he2) he) hw hs) fun B Ex ρ ω σ H D0 rep q => ⟨B, Ex, ρ, ω, _, rep, q, fun d ω1 v H1 q1 k1 w1 z1 => ?_⟩
  have r1 := rep.go k1 w1
  refine g2 B Ex ρ ω1 σ H1 _ _ r1 q1 fun u H2 h => ?_
  obtain ⟨p, z, ω2, rfl, n, k2, r2, st, hz, ow, q2⟩ := r1.made h
  have z2 : Dq H2 (fun b => Ex b ∨ b = p) v d := st.dq z1
  refine ⟨v, .ref p, rfl, _, _, ω2, (rep.stp k1 w1).trans st, (r2.set z2 i).setSl hz ow j (r1.out0 n) fun m y ne ey oy sy => ?_, q2⟩
  rcases of_set ey with ⟨h1, h2⟩ | ⟨h1, h2⟩
  · cases h2; cases oy
  · rw [get_set_ne h1] at sy
    exact r1.noOwn n m y h2 oy sy
/-- a, b = e1, e2: the first one a new list -/
def dParFD {W : Wo} (i j : Nat) (tf : DFt W) (tb : DT W) : DTS W := fun D0 ρ ω => tf ρ ω fun z ω1 => tb ρ ω1 fun y ω2 => D0.nx ((ρ.set i (some z)).set j (some (.d y))) ω2
theorem ds_parFD {i j : Nat} {x y : Str} {px py pt : Pos} {kt k2 pt2} (hc : X.calm = true) (hN : X.N.Nodup) (hi : X.N[i]? = some x) (hj : X.N[j]? = some y) (hij : i ≠ j)
    (hx : X.env.scope.names.lookup x = some .local) (hy : X.env.scope.names.lookup y = some .local) (ha : DF X W a tf) (hb : DE X W b tb)
    (hw : swappedStores [.Tuple [.Name x px, .Name y py] kt pt] (.Tuple [a, b] k2 pt2) X.env = pure (some [x, y])) (he : starEach [a, b] X.env = (false, eval a X.env) :: starEach [b] X.env := by rfl) (he2 : starEach [b] X.env = (false, eval b X.env) :: starEach [] X.env := by rfl)
    (hs : swapsWithSole [.Tuple [.Name x px, .Name y py] kt pt] (.Tuple [a, b] k2 pt2) pos.line X.env = pure false := by rfl) :
    DS X W (.Assign [.Tuple [.Name x px, .Name y py] kt pt] (.Tuple [a, b] k2 pt2) pos) (dParFD i j tf tb) := by
  obtain ⟨ta', g1, g2⟩ := ha
  refine DS.of (ps_par hc hN hi hj hij hx hy (pa_cons g1 (pa_cons hb.pe pa_nil he2) he) hw hs) fun B Ex ρ ω σ H D0 rep q => g2 B Ex ρ ω σ H _ _ rep q fun u H1 h => ?_
  obtain ⟨p, z, ω1, rfl, n, k1, r1, st, hz, ow, q1⟩ := rep.made h
  refine ⟨B, _, ρ, ω1, _, r1, q1, fun d ω2 v H2 q2 k2 w2 z2 => ?_⟩
  have r2 := r1.go k2 w2
  have nMu : ¬ W.Mu p := fun m => rep.new n (rep.muEx m)
  have ow2 : Own H2 (fun b => Ex b ∨ b = p) p z := ow.to (fun _ h => h) (fun o h => k2 p o h nMu) fun a o h m => ⟨k2 a o h fun x => m (r1.muEx x), m⟩
  have r3 := (r2.setSl hz ow2 i (rep.out0 n) fun m y ne ey oy sy => rep.noOwn n m y ey oy sy).set z2 j
  exact ⟨.ref p, v, rfl, _, _, ω2, st.trans (r1.stp k2 w2), r3, q2⟩
end

/-! ## deeds to own lists -/
section
variable {R S : RQ} {X : Cx} {W : Wo} {e a b c : Expr} {es : List Expr} {pos : Pos} {te ta tb tc ti tv : DT W}
/-- x[k] = v -/
def dSetO {W : Wo} (i : Nat) (ti tv : DT W) : DTS W := fun D0 ρ ω => ∃ ds, ρ[i]? = some (some (.own ds)) ∧ tv ρ ω fun d ω1 => ti ρ ω1 fun k ω2 => ∃ n j, k = .int n ∧ ixN ds.length n = some j ∧ D0.nx (ρ.set i (some (.own (ds.set j d)))) ω2
theorem ds_setO {i : Nat} {x : Str} {px ps : Pos} {k v : Expr} (hN : X.N[i]? = some x) (hv : Vis X.env.scope x) (hk : DE X W k ti) (h : DE X W v tv) (hd : (x == ("__debug__" : Str)) = false := by decide) (hcd : (x == ("__classdict__" : Str)) = false := by decide)
    (ha : ∀ u, assign (.Subscript (.Name x px) k ps) X.env u = (do
      let ov ← holding [u] (eval (.Name x px) X.env)
      let iv ← holding [u, ov] (eval k X.env)
      standAt ps
      holding [u, ov, iv] (setItem ov iv u)
      release [u, ov, iv] []) := by intro _; rfl)
    (hs : swapsWithSole [.Subscript (.Name x px) k ps] v pos.line X.env = pure false := by rfl) (hw : swappedStores [.Subscript (.Name x px) k ps] v X.env = pure none := by rfl)
    (h1 : (assignEach [.Subscript (.Name x px) k ps] X.env).map (·.2) = [assign (.Subscript (.Name x px) k ps) X.env] := by rfl) :
    DS X W (.Assign [.Subscript (.Name x px) k ps] v pos) (dSetO i ti tv) := by
  refine DS.of (ps_asg h.pe (pg_sub (pe_var (i := i) hN hv hd hcd) hk.pe set_list ha) hs hw h1) fun B Ex ρ ω σ H D0 rep ⟨ds, e0, q⟩ => ⟨B, Ex, ρ, ω, _, rep, q, fun d ω1 u H1 q1 k1 w1 z1 => ?_⟩
  have r1 := rep.go k1 w1
  obtain ⟨p, _, hw', _⟩ := rep.own e0
  refine ⟨.ref p, hw', B, Ex, ρ, ω1, _, r1, q1, fun kd ω2 kv H2 ⟨n, j, ek, ej, q2⟩ k2 w2 z2 => ?_⟩
  subst ek
  cases z2
  have r2 := r1.go k2 w2
  obtain ⟨p', vs, g1, g2, nm, g3, g4, g5⟩ := r2.own e0
  rw [hw'] at g1
  cases g1
  refine ⟨p, vs, n, j, rfl, rfl, g4, by rw [g5.length]; exact ej, ?_⟩
  have z1' : Dq H2 Ex u d := r1.keep k2 z1
  have ne : ∀ b, ¬ Ex b → b ≠ p := fun b n e => n (e ▸ g2)
  obtain ⟨r3, s3⟩ := r2.ownUpd (o := .lst (vs.set j u)) (y := .own (ds.set j d)) e0 rfl hw' rfl g2 ⟨g2, _, upd_same, (g5.set z1' j).to fun b o e n => ⟨by rw [upd_ne (ne b n)]; exact e, n⟩⟩
  exact ⟨Ex, _, ω2, (((rep.stp k1 w1).trans (r1.stp k2 w2))).trans s3, r3, q2⟩
/-- x.insert(k, v) -/
def dIns {W : Wo} (i : Nat) (ti tv : DT W) : DTS W := fun D0 ρ ω => ∃ ds, ρ[i]? = some (some (.own ds)) ∧ ti ρ ω fun k ω1 => tv ρ ω1 fun d ω2 => ∃ n : Int, k = .int n ∧ ds.length < sizeLine ∧ 0 ≤ n ∧ n < 2 ^ 63 ∧ D0.nx (ρ.set i (some (.own (ds.take n.toNat ++ [d] ++ ds.drop n.toNat)))) ω2
theorem ds_ins {i : Nat} {x : Str} {px pa pc : Pos} {k v : Expr} (hN : X.N[i]? = some x) (hv : Vis X.env.scope x) (hk : DE X W k ti) (h : DE X W v tv) (hd : (x == ("__debug__" : Str)) = false := by decide) (hcd : (x == ("__classdict__" : Str)) = false := by decide)
    (hbase : attributeBase (.Name x px) "insert" X.env (eval (.Name x px) X.env) = eval (.Name x px) X.env := by rfl)
    (hfew : ((backTo pc (starEach [k, v] X.env)).all (fun x => !x.1) && (backToKw pc (keywordEach [] X.env)).all (fun x => x.1.isSome) && decide ([k, v].length + ([] : List Keyword).length + (if ([] : List Keyword).isEmpty then 0 else 1) < 30)) = true := by rfl)
    (hline : (pa.endLine == pc.line) = true := by rfl) (hst : starEach [k, v] X.env = (false, eval k X.env) :: starEach [v] X.env := by rfl) (hst2 : starEach [v] X.env = (false, eval v X.env) :: starEach [] X.env := by rfl) (hplain : (backTo pc (starEach [v] X.env)).any (·.1) = false := by rfl)
    (hsw : swapsWith (.Call (.Attribute (.Name x px) "insert" pa) [k, v] [] pc) none pos.line X.env = pure false := by rfl) :
    DS X W (.Expr (.Call (.Attribute (.Name x px) "insert" pa) [k, v] [] pc) pos) (dIns i ti tv) := by
  refine DS.of (ps_expr (pe_bm PySem.F.plainAttrs_list PySem.F.slot_list_insert PySem.F.type_list_insert mt_insert (pe_var (i := i) hN hv hd hcd) (pa_cons hk.pe (pa_cons h.pe pa_nil hst2) hst) hbase hfew hline hst hplain) hsw) fun B Ex ρ ω σ H D0 rep ⟨ds, e1, q⟩ => ?_
  obtain ⟨a, vs, g1, g2, nm, g3, g4, g5⟩ := rep.own e1
  refine ⟨_, g1, .inl ⟨rfl, vs, SqL.of g4⟩, B, Ex, ρ, ω, _, rep, q, fun kd ω1 kv H1 q1 k1 w1 z1 => ⟨B, Ex, ρ, ω1, _, rep.go k1 w1, q1, fun d ω2 u H2 ⟨n, ek, hl, n0, n1, q2⟩ k2 w2 z2 => ?_⟩⟩
  subst ek
  cases z1
  have r := (rep.go k1 w1).go k2 w2
  obtain ⟨a', vs', g1', g2', _, _, g4', g5'⟩ := r.own e1
  rw [g1] at g1'
  cases g1'
  refine ⟨a, vs', n, u, rfl, rfl, g4', by rw [g5'.length]; exact hl, n0, n1, ?_⟩
  have ne : ∀ b, ¬ Ex b → b ≠ a := fun b n e => n (e ▸ g2)
  have all := (((g5'.take n.toNat).append (.cons z2 .nil)).append (g5'.drop n.toNat))
  obtain ⟨r2, s2⟩ := r.ownUpd (o := .lst (vs'.take n.toNat ++ [u] ++ vs'.drop n.toNat)) (y := .own (ds.take n.toNat ++ [d] ++ ds.drop n.toNat)) e1 rfl g1 rfl g2 ⟨g2, _, upd_same, all.to fun b o e n => ⟨by rw [upd_ne (ne b n)]; exact e, n⟩⟩
  exact ⟨Ex, _, ω2, ((rep.stp k1 w1).trans ((rep.go k1 w1).stp k2 w2)).trans s2, r2, q2⟩
/-- x.extend(e) -/
def dExt {W : Wo} (i : Nat) (te : DT W) : DTS W := fun D0 ρ ω => ∃ ds, ρ[i]? = some (some (.own ds)) ∧ te ρ ω fun d ω' => ∃ es, d = .lst es ∧ ds.length + es.length ≤ sizeLine ∧ D0.nx (ρ.set i (some (.own (ds ++ es)))) ω'
theorem ds_ext {i : Nat} {x : Str} {px pa pc : Pos} (hN : X.N[i]? = some x) (hv : Vis X.env.scope x) (h : DE X W e te) (hd : (x == ("__debug__" : Str)) = false := by decide) (hcd : (x == ("__classdict__" : Str)) = false := by decide)
    (hbase : attributeBase (.Name x px) "extend" X.env (eval (.Name x px) X.env) = eval (.Name x px) X.env := by rfl)
    (hfew : ((backTo pc (starEach [e] X.env)).all (fun x => !x.1) && (backToKw pc (keywordEach [] X.env)).all (fun x => x.1.isSome) && decide ([e].length + ([] : List Keyword).length + (if ([] : List Keyword).isEmpty then 0 else 1) < 30)) = true := by rfl)
    (hline : (pa.endLine == pc.line) = true := by rfl) (hs : starEach [e] X.env = (false, eval e X.env) :: starEach [] X.env := by rfl) (hplain : (backTo pc (starEach [] X.env)).any (·.1) = false := by rfl)
    (hsw : swapsWith (.Call (.Attribute (.Name x px) "extend" pa) [e] [] pc) none pos.line X.env = pure false := by rfl) :
    DS X W (.Expr (.Call (.Attribute (.Name x px) "extend" pa) [e] [] pc) pos) (dExt i te) := by
  refine DS.of (ps_expr (pe_bm PySem.F.plainAttrs_list PySem.F.slot_list_extend PySem.F.type_list_extend mt_extend (pe_var (i := i) hN hv hd hcd) (pa_cons h.pe pa_nil hs) hbase hfew hline hs hplain) hsw) fun B Ex ρ ω σ H D0 rep ⟨ds, e1, q⟩ => ?_
  obtain ⟨a, vs, g1, g2, nm, g3, g4, g5⟩ := rep.own e1
  refine ⟨_, g1, .inl ⟨rfl, vs, SqL.of g4⟩, B, Ex, ρ, ω, _, rep, q, fun d ω' v H' ⟨es, e, l, q'⟩ k w z => ?_⟩
  subst e
  have r := rep.go k w
  obtain ⟨a', vs', g1', g2', _, _, g4', g5'⟩ := r.own e1
  rw [g1] at g1'
  cases g1'
  obtain ⟨b, ws, rfl, hb, hz⟩ := (Bq.of (W := W) z).ofL
  refine ⟨a, b, vs', ws, rfl, rfl, g4', hb, by rw [g5'.length, hz.length]; exact l, ?_⟩
  have ne : ∀ b, ¬ Ex b → b ≠ a := fun b n e => n (e ▸ g2)
  obtain ⟨r2, s2⟩ := r.ownUpd (o := .lst (vs' ++ ws)) (y := .own (ds ++ es)) e1 rfl g1 rfl g2 ⟨g2, _, upd_same, (g5'.append hz).to fun b o e n => ⟨by rw [upd_ne (ne b n)]; exact e, n⟩⟩
  exact ⟨Ex, _, ω', (rep.stp k w).trans s2, r2, q'⟩
/-- x.clear() -/
def dClr {W : Wo} (i : Nat) : DTS W := fun D0 ρ ω => ∃ ds, ρ[i]? = some (some (.own ds)) ∧ D0.nx (ρ.set i (some (.own []))) ω
theorem ds_clr {i : Nat} {x : Str} {px pa pc : Pos} (hN : X.N[i]? = some x) (hv : Vis X.env.scope x) (hd : (x == ("__debug__" : Str)) = false := by decide) (hcd : (x == ("__classdict__" : Str)) = false := by decide)
    (hbase : attributeBase (.Name x px) "clear" X.env (eval (.Name x px) X.env) = eval (.Name x px) X.env := by rfl) (hline : (pa.endLine == pc.line) = true := by rfl)
    (hsw : swapsWith (.Call (.Attribute (.Name x px) "clear" pa) [] [] pc) none pos.line X.env = pure false := by rfl) :
    DS X W (.Expr (.Call (.Attribute (.Name x px) "clear" pa) [] [] pc) pos) (dClr i) := by
  refine DS.of (ps_expr (pe_bm0 PySem.F.plainAttrs_list PySem.F.slot_list_clear PySem.F.type_list_clear mt_clear (pe_var (i := i) hN hv hd hcd) hbase hline) hsw) fun B Ex ρ ω σ H D0 rep ⟨ds, e1, q⟩ => ?_
  obtain ⟨a, vs, g1, g2, nm, g3, g4, g5⟩ := rep.own e1
  have ne : ∀ b, ¬ Ex b → b ≠ a := fun b n e => n (e ▸ g2)
  obtain ⟨r2, s2⟩ := rep.ownUpd (o := .lst []) (y := .own []) e1 rfl g1 rfl g2 ⟨g2, [], upd_same, .nil⟩
  exact ⟨_, g1, .inl ⟨rfl, vs, SqL.of g4⟩, a, vs, rfl, rfl, g4, Ex, _, ω, s2, r2, q⟩
/-- a statement that is never come to -/
theorem ds_dead {st : Stmt} : DS X W st (fun _ _ _ => False) := ⟨fun pins s σ H B Ex ρ ω D0 I rep q => q.elim⟩
end

/-! ## new lists from defs -/
/-- as spOf, the result being a new list (dict) of the asker's own -/
abbrev SpF (W : Wo) := List D → W.Om → (Sl → W.Om → Prop) → Prop
def spF (W : Wo) (S : SpF W) : Sp := fun vs H Q _ => ∃ (Ex : Addr → Prop) (ω : W.Om) (ds : List D) (Q0 : Sl → W.Om → Prop), W.at Ex ω H ∧ (∀ a, W.Mu a → Ex a) ∧ (∀ a, Ex a → H a ≠ none) ∧ DqL H Ex vs ds ∧ S ds ω Q0 ∧ ∀ v H', PostF W Ex H Q0 v H' → Q v H'
section
variable {R S : RQ} {X : Cx} {W : Wo} {e a b c : Expr} {es : List Expr} {pos : Pos} {te ta tb tc ti tv : DT W} {tl : DA W}
def fCall {W : Wo} (S : SpF W) (dvs : List D) (tl : DA W) : DFt W := fun ρ ω Q => tl ρ ω fun ds ω1 => S (ds ++ dvs) ω1 Q
theorem df_cl {k : Nat} {f : Addr} {fd : FuncData} {ps : List Str} {S : SpF W} {dvs : List V} {dds : List D} {dus : List Value} {x : Str} {p : Pos} (F : FnG X.prog X.w X.K X.mg X.base CX0 k f fd ps (spF W S)) (g : Gd X.A) (hr : Room k X.A)
    (hg : Gl X x) (hm : X.mg x = some (.ref f)) (hk : PySem.W.keepIn X.K (.ref f) = true) (hb : Binds X.K fd ps dus) (hd : Vals dvs dus) (hf : Paired Flat dvs dds) (ha : DL X W (e :: es) tl)
    (hdb : (x == ("__debug__" : Str)) = false := by decide) (he : starEach (e :: es) X.env = (false, eval e X.env) :: starEach es X.env := by rfl) (hpl : (backTo pos (starEach es X.env)).any (·.1) = false := by rfl) :
    DF X W (.Call (.Name x p) (e :: es) [] pos) (fCall S dds tl) :=
  ⟨_, pe_cl F g hr hg hm hk hb hd pass0 ha.pa hdb he hpl, fun B Ex ρ ω σ H Q Q' rep q f => ⟨B, Ex, ρ, ω, _, rep, q, fun ds ω1 vs H1 q1 k1 w1 z1 =>
    ⟨Ex, ω1, ds ++ dds, Q, w1, fun _ m => rep.muEx m, (rep.go k1 w1).tr, z1.append (flats hf), q1, fun v H2 ⟨a, z, ω2, e, n, k2, w2, hz, ow, q2⟩ => f v H2 ⟨a, z, ω2, e, k1.back w1 n, k1.trans k2, w2, hz, ow, q2⟩⟩⟩⟩
/-- x = e, from then on data: e a new list -/
theorem de_new {tf : DFt W} (h : DF X W e tf) : DE X W e (fun ρ ω Q => tf ρ ω fun z ω' => ∃ ds, z = .own ds ∧ Q (.lst ds) ω') := by
  obtain ⟨te, h1, h2⟩ := h
  refine DX.of h1 fun B Ex ρ ω σ H Q rep q => h2 B Ex ρ ω σ H _ _ rep q fun v H' ⟨a, z, ω', e, n, k, w, hz, ow, ds, ez, q'⟩ => ?_
  subst e ez
  obtain ⟨_, vs, h3, h4⟩ := ow
  exact ⟨_, ω', k, W.le w fun b m => .inl (.inl m), .lst h3 (rep.new n) (h4.to fun a o e n => ⟨e, fun z => n (.inl z)⟩), q'⟩
end
end Tk

namespace Tk
open PySem PySem.Spec PyProof.Rows L2
/-! ## defs that end with a new list -/
def PostR (W : Wo) (B : Bs) (Q : Sl → W.Om → Prop) (v : V) (H' : Hp) : Prop := ∃ a z ω', v = .ref a ∧ B.H0 a = none ∧ Kp W B.H0 H' ∧ W.at (fun b => B.Ex0 b ∨ b = a) ω' H' ∧ isOwn z = true ∧ Own H' (fun b => B.Ex0 b ∨ b = a) a z ∧ Q z ω'
theorem Own.weak {H : Hp} {Ex Ex' : Addr → Prop} {a : Addr} {z : Sl} (s : ∀ b, Ex' b → Ex b) (x : Ex' a) (h : Own H Ex a z) : Own H Ex' a z := by
  cases z with
  | d d => exact h
  | own ds => obtain ⟨_, vs, e, l⟩ := h; exact ⟨x, vs, e, l.to fun a o e n => ⟨e, fun m => n (s a m)⟩⟩
  | odc ds => obtain ⟨_, vs, e, l⟩ := h; exact ⟨x, vs, e, l.to fun a o e n => ⟨e, fun m => n (s a m)⟩⟩
structure DSF (X : Cx) (W : Wo) (sts : List Stmt) (t : (Sl → W.Om → Prop) → Rho → W.Om → Prop) : Prop where
  ex : ∃ ts : TS, PSs X sts ts ∧ ∀ (B : Bs) (Ex : Addr → Prop) (ρ : Rho) (ω : W.Om) (σ : List (Option V)) (H : Hp) (Q : Sl → W.Om → Prop) (D : Ends), Rep W B Ex H σ ρ ω → t Q ρ ω → (∀ v H', PostR W B Q v H' → D.rt v H') → ts D σ H
section
variable {X : Cx} {W : Wo} {st : Stmt} {sts : List Stmt} {t : DTS W} {u : (Sl → W.Om → Prop) → Rho → W.Om → Prop} {e : Expr} {tf : DFt W} {pos : Pos}
theorem dsf_ret (h : DF X W e tf) : DSF X W [.Return (some e) pos] (fun Q ρ ω => tf ρ ω Q) := by
  obtain ⟨te, h1, h2⟩ := h
  refine ⟨_, pss_one (ps_ret h1), fun B Ex ρ ω σ H Q D rep q f => h2 B Ex ρ ω σ H Q _ rep q fun v H' ⟨a, z, ω', e, n, k, w, hz, ow, q'⟩ => f v H' ⟨a, z, ω', e, rep.out0 n, rep.kp.trans k, W.le w fun b m => .inl (m.elim (fun m => .inl (rep.sub b m)) .inr), hz, ow.weak (fun b m => m.elim (fun m => .inl (rep.sub b m)) .inr) (.inr rfl), q'⟩⟩
/-- return x, x an own list -/
theorem dsf_own (i : Nat) {x : Str} {px : Pos} (hN : X.N[i]? = some x := by rfl) (hv : Vis X.env.scope x := by first | exact Or.inl rfl | exact Or.inr (Or.inl rfl) | exact Or.inr (Or.inr rfl)) (hd : (x == ("__debug__" : Str)) = false := by decide) (hcd : (x == ("__classdict__" : Str)) = false := by decide) :
    DSF X W [.Return (some (.Name x px)) pos] (fun Q ρ ω => ∃ ds, ρ[i]? = some (some (.own ds)) ∧ Q (.own ds) ω) := by
  refine ⟨_, pss_one (ps_ret (pe_var (i := i) hN hv hd hcd)), fun B Ex ρ ω σ H Q D rep ⟨ds, e, q⟩ f => ?_⟩
  obtain ⟨a, vs, g1, g2, nm, g3, g4, g5⟩ := rep.own e
  exact ⟨.ref a, g1, f _ _ ⟨a, .own ds, ω, rfl, g3, rep.kp, W.le rep.wo fun b m => .inl (m.elim (rep.sub b) fun z => z ▸ g2), rfl, ⟨.inr rfl, vs, g4, g5.to fun b o e n => ⟨e, fun m => n (m.elim (rep.sub b) fun z => z ▸ g2)⟩⟩, q⟩⟩
theorem dsf_cons (h : DS X W st t) (h2 : DSF X W sts u) : DSF X W (st :: sts) (fun Q ρ ω => t { nx := fun ρ' ω' => u Q ρ' ω', rt := fun _ _ => False } ρ ω) := by
  obtain ⟨ts, g1, g2⟩ := h2
  refine ⟨_, pss_cons h.ps g1, fun B Ex ρ ω σ H Q D rep q f => ⟨B, Ex, ρ, ω, _, rep, q, ⟨fun σ' H' ⟨Ex', ρ', ω', s, r, z⟩ => g2 B Ex' ρ' ω' σ' H' Q _ r z f, fun v H' ⟨_, _, _, _, _, z⟩ => z.elim, fun σ' H' ⟨_, _, _, _, _, z⟩ => z.elim, fun σ' H' ⟨_, _, _, _, _, z⟩ => z.elim⟩⟩⟩
/-- if c: return [..] ahead of the end -/
theorem dsf_frz (i : Nat) (h : DSF X W sts u) : DSF X W sts (fun Q ρ ω => ∃ ds, ρ[i]? = some (some (.own ds)) ∧ u Q (ρ.set i (some (.d (.lst ds)))) ω) := by
  obtain ⟨ts, g1, g2⟩ := h
  refine ⟨ts, g1, fun B Ex ρ ω σ H Q D rep ⟨ds, e, q⟩ f => ?_⟩
  obtain ⟨Ex', r, s'⟩ := rep.frz e
  exact g2 B Ex' _ ω σ H Q D r q f
end
theorem okF {P : Program} {w : World} {K : PySem.W.Frag} {mg : Str → Option Value} {base : Heap} {W : Wo} [Free W] {x qual : Str} {st : Stmt} {f : Addr} {fd : FuncData} {N ps : List Str} {k : Nat} {S : SpF W} (F : Fun K x qual st f fd) (C : FnScope N ps (defScope st))
    (len : ∀ ds ω Q, S ds ω Q → ds.length = ps.length)
    (hbody : ∀ (cdv : Value) (A : Around) (outer : List Env) (s : Shared) (H : Hp) (E : XK) (ds : List D) (ω : W.Om) (Q : Sl → W.Om → Prop), Gd A → Room k (A.deeper (envOfC qual (defScope st) s.heap.objs.size f cdv)) → S ds ω Q →
      ∃ t, DSF (cxOf CX0 P w K mg base N qual (defScope st) f cdv A outer s H E).nox W (defBody st) t ∧ t Q (startD N ds) ω) :
    FnG P w K mg base CX0 (k + 1) f fd ps (spF W S) := by
  refine okG F C (fun vs H Q E ⟨Ex, ω, ds, Q0, _, _, _, q, h, _⟩ => by rw [q.length]; exact len _ _ _ h) fun cdv A outer s H vs Q E g hr ⟨Ex, ω, ds, Q0, wo, mu, tr, q, h, fin⟩ => ?_
  obtain ⟨t, ⟨ts, h1, h2⟩, h3⟩ := hbody cdv A outer s H E ds ω Q0 g hr h
  exact ⟨ts, h1, h2 ⟨H, Ex⟩ Ex _ ω _ H Q0 _ (rep_start wo mu tr q (Free.bb _ _ _)) h3 fun v H' h => fin v H' h⟩

/-! ## comprehensions of two walks -/
/-- no own things -/
def noOwn (ρ : Rho) : Bool := ρ.all fun z => match z with
  | some (.own _) => false
  | some (.odc _) => false
  | _ => true
theorem noOwn_at {ρ : Rho} (h : noOwn ρ = true) {j : Nat} {z : Sl} (e : ρ[j]? = some (some z)) : isOwn z = false := by
  have := List.all_eq_true.mp h _ (List.mem_of_getElem? e)
  cases z <;> first | rfl | cases this
theorem noOwn_set {ρ : Rho} (h : noOwn ρ = true) (i : Nat) : noOwn (ρ.set i none) = true := by
  refine List.all_eq_true.mpr fun z hz => ?_
  rcases List.mem_or_eq_of_mem_set hz with m | m
  · exact List.all_eq_true.mp h z m
  · rw [m]
theorem noOwn_wipe {ρ : Rho} (h : noOwn ρ = true) : ∀ vs : List Nat, noOwn (wipeD ρ vs) = true
  | [] => h
  | v :: vs => noOwn_set (noOwn_wipe h vs) v
def lcI {W : Wo} (f : D → Rho → Option Rho) (tt : DB W) (te : DT W) (ρ : Rho) : List D → List D → W.Om → (List D → W.Om → Prop) → Prop
  | [], acc, ω, Q => Q acc ω
  | x :: xs, acc, ω, Q => ∃ ρ', f x ρ = some ρ' ∧ tt ρ' ω fun b ω' => if b = true then te ρ' ω' fun d ω2 => acc.length < sizeLine ∧ lcI f tt te ρ xs (acc ++ [d]) ω2 Q else lcI f tt te ρ xs acc ω' Q
def lcW2 {W : Wo} (f : D → Rho → Option Rho) (tt : DB W) (ti1 : DIt W) (vs1 : List Nat) (f1 : D → Rho → Option Rho) (tt1 : DB W) (te : DT W) (ρ : Rho) : List D → List D → W.Om → (D → W.Om → Prop) → Prop
  | [], acc, ω, Q => Q (.lst acc) ω
  | x :: xs, acc, ω, Q => ∃ ρ', f x ρ = some ρ' ∧ noOwn ρ' = true ∧ tt ρ' ω fun b ω' => if b = true then ti1 ρ' ω' fun items1 ω1 => lcI f1 tt1 te (wipeD ρ' vs1) items1 acc ω1 fun acc' ω2 => lcW2 f tt ti1 vs1 f1 tt1 te ρ xs acc' ω2 Q
      else lcW2 f tt ti1 vs1 f1 tt1 te ρ xs acc ω' Q
abbrev RunT (W : Wo) (tt : TT) (ttD : DB W) : Prop := ∀ (B : Bs) (Ex : Addr → Prop) (ρ : Rho) (ω : W.Om) (σ : List (Option V)) (H : Hp) (Q : Bool → W.Om → Prop) (Q' : Bool → Hp → Prop), Rep W B Ex H σ ρ ω → ttD ρ ω Q → (∀ b ω' H', Q b ω' → Kp W H H' → W.at Ex ω' H' → Q' b H') → tt σ H Q'
abbrev RunI (W : Wo) (wi : TI) (ti : DIt W) : Prop := ∀ (B : Bs) (Ex : Addr → Prop) (ρ : Rho) (ω : W.Om) (σ : List (Option V)) (H : Hp) (Q : List D → W.Om → Prop) (R' : It → Hp → Prop), Rep W B Ex H σ ρ ω → ti ρ ω Q →
  (∀ items ω1 J H1 S, Q items ω1 → Kp W H H1 → W.at Ex ω1 H1 → (∀ b, S b → ¬ W.Mu b) → (true = true → ∀ b, S b → ¬ Ex b) → Wk J Ex items S H1 → R' J H1) → wi σ H R'
theorem lc2_run {W : Wo} {B : Bs} {Ex : Addr → Prop} {σ : List (Option V)} {ρ : Rho} {H H1 : Hp} {ω ω1 : W.Om} {vs vs1 : List Nat} {g g1 : TG} {f f1 : D → Rho → Option Rho} {tt tt1 : TT} {te : TE} {wi1 : TI} {ttD ttD1 : DB W} {teD : DT W} {ti1 : DIt W} {J : It} {S : Addr → Prop} {items : List D} {Q : D → W.Om → Prop} {D : Addr} {Qd : Hp → Prop}
    (rep : Rep W B Ex H σ ρ ω) (k1 : Kp W H H1) (w1 : W.at Ex ω1 H1) (hm : ∀ b, S b → ¬ W.Mu b) (wk : Wk J Ex items S H1) (hD : H1 D = none) (G : Gf g vs f) (G1 : Gf g1 vs1 f1) (ht : RunT W tt ttD) (ht1 : RunT W tt1 ttD1) (hi1 : RunI W wi1 ti1)
    (he : ∀ (B : Bs) (Ex : Addr → Prop) (ρ : Rho) (ω : W.Om) (σ : List (Option V)) (H : Hp) (Q : Tk.D → W.Om → Prop) (Q' : V → Hp → Prop), Rep W B Ex H σ ρ ω → teD ρ ω Q → (∀ d ω' v H', Q d ω' → Kp W H H' → W.at Ex ω' H' → Dq H' Ex v d → Q' v H') → te σ H Q')
    (q : lcW2 f ttD ti1 vs1 f1 ttD1 teD (wipeD ρ vs) items [] ω1 Q)
    (done : ∀ (acc : List V) (ds : List Tk.D) (ω' : W.Om) (H' : Hp), Q (.lst ds) ω' → Kp W H H' → W.at (fun b => Ex b ∨ b = D) ω' H' → H' D = some (.lst acc) → DqL H' (fun b => Ex b ∨ b = D) acc ds → Qd H') :
    ∃ Wv : Nat → Nat → Hp → Prop, (∃ m, Wv 0 m (upd H1 D (.lst []))) ∧ ∀ i m H, Wv i m H →
      (J.stop i H ∧ Qd H) ∨ (J.go i H ∧ ∃ Nx : Hp → Prop, (∀ H', Nx H' → ∃ m', m' < m ∧ Wv (i + 1) m' H') ∧ ∀ x H', J.yld i H x H' → g x (L2.wipe σ vs) H' fun σ2 H2 => L2.wipe σ2 vs = L2.wipe σ vs ∧ tt σ2 H2 fun b H3 =>
        if b = true then wi1 σ2 H3 fun J1 H4 => ∃ W1 : Nat → Nat → Hp → Prop, (∃ m, W1 0 m H4) ∧ ∀ j k H, W1 j k H →
          (J1.stop j H ∧ Nx H) ∨ (J1.go j H ∧ ∃ Nx1 : Hp → Prop, (∀ H', Nx1 H' → ∃ k', k' < k ∧ W1 (j + 1) k' H') ∧ ∀ x H', J1.yld j H x H' → g1 x (L2.wipe σ2 vs1) H' fun σ3 H5 => L2.wipe σ3 vs1 = L2.wipe σ2 vs1 ∧ tt1 σ3 H5 fun b H6 =>
            if b = true then te σ3 H6 fun y H7 => ∃ acc, H7 D = some (.lst acc) ∧ acc.length < sizeLine ∧ Nx1 (upd H7 D (.lst (acc ++ [y]))) else Nx1 H6)
        else Nx H3) := by
  have r1 := rep.go k1 w1
  have s1 : Same H1 (upd H1 D (.lst [])) := same_upd hD
  have hD0 : B.H0 D = none := r1.out0 hD
  have nMu : ¬ W.Mu D := fun m => W.tk w1 m hD
  have rw1 := r1.wipe vs
  have nOwn := fun j z e o s => rw1.noOwn (p := D) hD j z e o s
  have neS : ∀ b o, H1 b = some o → b ≠ D := fun b o e z => by subst z; rw [hD] at e; cases e
  let P : Nat → Hp → Prop := fun i H' => ∃ acc ds ωi, i ≤ items.length ∧ H' D = some (.lst acc) ∧ Kp W H1 H' ∧ Rep W B (fun b => Ex b ∨ b = D) H' (L2.wipe σ vs) (wipeD ρ vs) ωi ∧
    DqL H' (fun b => Ex b ∨ b = D) acc ds ∧ lcW2 f ttD ti1 vs1 f1 ttD1 teD (wipeD ρ vs) (items.drop i) ds ωi Q
  have agr : ∀ {H'}, Kp W H1 H' → Agr S H1 H' := fun k b o e sb => k b o e (hm b sb)
  refine ⟨fun i m H' => m = items.length - i ∧ P i H', ⟨items.length, by simp, [], [], ω1, Nat.zero_le _, upd_same, Kp.same s1, rw1.alloc hD _, .nil, by simpa using q⟩, ?_⟩
  rintro i m H2 ⟨rfl, acc, ds, ωi, hi, hd, k2, r2, dl, q2⟩
  by_cases hlt : i < items.length
  · refine .inr ⟨wk.goes i H2 hlt (agr k2), fun H' => P (i + 1) H', fun H' p => ⟨_, by omega, rfl, p⟩, fun x H3 y => ?_⟩
    obtain ⟨sm, d, hd', dq⟩ := wk.yields i H2 x H3 (fun b => Ex b ∨ b = D) hlt (agr k2) r2.tr (fun a h => by
      rcases h with h | h
      · exact .inl h
      · subst h; exact .inr hD) y
    have r3 := r2.grow sm
    have ed : items.drop i = d :: items.drop (i + 1) := by
      rw [List.drop_eq_getElem_cons hlt]
      have : items[i] = d := by
        rw [List.getElem?_eq_getElem hlt] at hd'
        exact Option.some.inj hd'
      rw [this]
    rw [ed] at q2
    obtain ⟨ρ', ef, no, q3⟩ := q2
    refine G.run r3 dq ef fun σ' rs ew => ?_
    refine ⟨by rw [ew, wipe_idem], ?_⟩
    refine ht _ _ _ _ _ _ _ _ rs q3 fun b ω' H4 q4 k4 w4 => ?_
    have rs4 := rs.go k4 w4
    have k34 := (Kp.same (W := W) sm).trans k4
    have hd4 := k34 D _ hd nMu
    have dl4 : DqL H4 (fun b => Ex b ∨ b = D) acc ds := dl.to fun a o e n => ⟨k34 a o e fun z => n (r2.muEx z), n⟩
    cases b with
    | false =>
      rw [if_neg Bool.false_ne_true] at q4
      rw [if_neg Bool.false_ne_true]
      exact ⟨acc, ds, ω', hlt, hd4, k2.trans k34, r3.go k4 w4, dl4, q4⟩
    | true =>
      rw [if_pos rfl] at q4
      rw [if_pos rfl]
      have ro4 := r3.go k4 w4
      refine hi1 _ _ _ _ _ _ _ _ rs4 q4 fun items1 ω5 J1 H5 S1 q5 k5 w5 hm1 hcl1 wk1 => ?_
      have hd5 := k5 D _ hd4 nMu
      have dl5 : DqL H5 (fun b => Ex b ∨ b = D) acc ds := dl4.to fun a o e n => ⟨k5 a o e fun z => n (r2.muEx z), n⟩
      have ri5 := (rs4.go k5 w5).wipe vs1
      have ro5 := ro4.go k5 w5
      have nI : ∀ (j : Nat) (z : Sl), (wipeD ρ' vs1)[j]? = some (some z) → isOwn z = true → (L2.wipe σ' vs1)[j]? = some (some (.ref D)) → False := fun j z e o s => by
        rw [noOwn_at (noOwn_wipe no vs1) e] at o
        cases o
      let P1 : Nat → Hp → Prop := fun j H' => ∃ acc ds ωj, j ≤ items1.length ∧ H' D = some (.lst acc) ∧ (∀ b o, H5 b = some o → b ≠ D → ¬ W.Mu b → H' b = some o) ∧ Rep W B (fun b => Ex b ∨ b = D) H' (L2.wipe σ vs) (wipeD ρ vs) ωj ∧
        Rep W B (fun b => Ex b ∨ b = D) H' (L2.wipe σ' vs1) (wipeD ρ' vs1) ωj ∧ DqL H' (fun b => Ex b ∨ b = D) acc ds ∧ lcI f1 ttD1 teD (wipeD ρ' vs1) (items1.drop j) ds ωj (fun acc' ω2 => lcW2 f ttD ti1 vs1 f1 ttD1 teD (wipeD ρ vs) (items.drop (i + 1)) acc' ω2 Q)
      have agr1 : ∀ {H' : Hp}, (∀ b o, H5 b = some o → b ≠ D → ¬ W.Mu b → H' b = some o) → Agr S1 H5 H' := fun k b o e sb => k b o e (fun z => hcl1 rfl b sb (.inr z)) (hm1 b sb)
      refine ⟨fun j m H' => m = items1.length - j ∧ P1 j H', ⟨items1.length, by simp, acc, ds, ω5, Nat.zero_le _, hd5, fun b o e _ _ => e, ro5, ri5, dl5, by simpa using q5⟩, ?_⟩
      rintro j m H6 ⟨rfl, acc6, ds6, ωj, hj, hd6, k6, ro6, ri6, dl6, q6⟩
      by_cases hlt1 : j < items1.length
      · refine .inr ⟨wk1.goes j H6 hlt1 (agr1 k6), fun H' => P1 (j + 1) H', fun H' p => ⟨_, by omega, rfl, p⟩, fun x1 H7 y1 => ?_⟩
        obtain ⟨sm1, d1, hd1', dq1⟩ := wk1.yields j H6 x1 H7 (fun b => Ex b ∨ b = D) hlt1 (agr1 k6) ri6.tr (fun a h => .inl h) y1
        have ri7 := ri6.grow sm1
        have ro7 := ro6.grow sm1
        have ed1 : items1.drop j = d1 :: items1.drop (j + 1) := by
          rw [List.drop_eq_getElem_cons hlt1]
          have : items1[j] = d1 := by
            rw [List.getElem?_eq_getElem hlt1] at hd1'
            exact Option.some.inj hd1'
          rw [this]
        rw [ed1] at q6
        obtain ⟨ρ'', ef1, q7⟩ := q6
        refine G1.run ri7 dq1 ef1 fun σ'' rs1 ew1 => ?_
        refine ⟨by rw [ew1, wipe_idem], ?_⟩
        refine ht1 _ _ _ _ _ _ _ _ rs1 q7 fun b ω8 H8 q8 k8 w8 => ?_
        have rs8 := rs1.go k8 w8
        have k68 := (Kp.same (W := W) sm1).trans k8
        cases b with
        | false =>
          rw [if_neg Bool.false_ne_true] at q8
          rw [if_neg Bool.false_ne_true]
          exact ⟨acc6, ds6, ω8, hlt1, k68 D _ hd6 nMu, fun b o e n m => k68 b o (k6 b o e n m) m, ro7.go k8 w8, ri7.go k8 w8, dl6.to fun a o e n => ⟨k68 a o e fun z => n (r2.muEx z), n⟩, q8⟩
        | true =>
          rw [if_pos rfl] at q8
          rw [if_pos rfl]
          refine he _ _ _ _ _ _ _ _ rs8 q8 fun d2 ω9 v H9 ⟨hz, q9⟩ k9 w9 dq9 => ?_
          have kk := k68.trans k9
          have hd9 := kk D _ hd6 nMu
          have ne9 : ∀ a, ¬ (Ex a ∨ a = D) → a ≠ D := fun a n e => n (.inr e)
          refine ⟨acc6, hd9, by rw [dl6.length]; exact hz, acc6 ++ [v], ds6 ++ [d2], ω9, hlt1, upd_same, fun b o e n m => ?_, (ro6.go kk w9).poke (.inr rfl) hD0 _ nOwn, (ri6.go kk w9).poke (.inr rfl) hD0 _ nI, ?_, q9⟩
          · rw [upd_ne n]
            exact kk b o (k6 b o e n m) m
          · refine DqL.append ?_ (.cons ?_ .nil)
            · exact dl6.to fun a o e n => ⟨by rw [upd_ne (ne9 a n)]; exact kk a o e fun z => n (r2.muEx z), n⟩
            · exact dq9.to fun a o e n => ⟨by rw [upd_ne (ne9 a n)]; exact e, n⟩
      · have e : j = items1.length := by omega
        subst e
        have e0 : items1.drop items1.length = [] := List.drop_length
        rw [e0] at q6
        refine .inl ⟨wk1.stops H6 (agr1 k6), acc6, ds6, ωj, hlt, hd6, fun b o e m => k6 b o (k5 b o (k34 b o (k2 b o e m) m) m) (neS b o e) m, ro6, dl6, q6⟩
  · have e : i = items.length := by omega
    subst e
    have e0 : items.drop items.length = [] := List.drop_length
    rw [e0] at q2
    exact .inl ⟨wk.stops H2 (agr k2), done acc ds ωi H2 q2 (k1.trans k2) r2.wo hd dl⟩
section
variable {X : Cx} {W : Wo} {pos : Pos}
/-- [e for x in xs if t for y in ys if u], a new list -/
def fLc2 {W : Wo} (ti : DIt W) (vs : List Nat) (f : D → Rho → Option Rho) (tt : DB W) (ti1 : DIt W) (vs1 : List Nat) (f1 : D → Rho → Option Rho) (tt1 : DB W) (te : DT W) : DFt W := fun ρ ω Q => ti ρ ω fun items ω1 => lcW2 f tt ti1 vs1 f1 tt1 te (wipeD ρ vs) items [] ω1 fun d ω2 => ∃ ds, d = .lst ds ∧ Q (.own ds) ω2
theorem df_lc2 {cl : Bool} {elt tg iter tg1 iter1 : Expr} {ifs ifs1 : List Expr} {scope : Scope} {own : List (Str × Nat)} {vs1 : List Nat} {ti ti1 : DIt W} {g g1 : TG} {f f1 : D → Rho → Option Rho} {tt tt1 : DB W} {te : DT W} (hc : X.calm = true) (hN : X.N.Nodup) (hi : DI cl X W tg iter ti) (ok : BlkOk X.N X.env.scope scope own)
    (hv : ∀ i ∈ vs1, i ∈ own.map (·.2)) (G : Gf g (own.map (·.2)) f) (G1 : Gf g1 vs1 f1) (hg : ∀ (s : Shared) (H : Hp) (C : Addr) (cl : List (Str × Addr)) (fp : List Addr), PG (X.blk s H scope (compEnvC scope cl C X.env) fp) tg g)
    (hg1 : ∀ (s : Shared) (H : Hp) (C : Addr) (cl : List (Str × Addr)) (fp : List Addr), PG (X.blk s H scope (compEnvC scope cl C X.env) fp) tg1 g1)
    (ht : ∃ tt', (∀ (s : Shared) (H : Hp) (C : Addr) (cl : List (Str × Addr)) (fp : List Addr), PTs (X.blk s H scope (compEnvC scope cl C X.env) fp) ifs tt') ∧ RunT W tt' tt)
    (ht1 : ∃ tt', (∀ (s : Shared) (H : Hp) (C : Addr) (cl : List (Str × Addr)) (fp : List Addr), PTs (X.blk s H scope (compEnvC scope cl C X.env) fp) ifs1 tt') ∧ RunT W tt' tt1)
    (hi1 : ∃ wi1, (∀ (s : Shared) (H : Hp) (C : Addr) (cl : List (Str × Addr)) (fp : List Addr), PI (X.blk s H scope (compEnvC scope cl C X.env) fp) tg1 iter1 wi1) ∧ RunI W wi1 ti1)
    (he : ∀ (s : Shared) (H : Hp) (C : Addr) (cl : List (Str × Addr)) (fp : List Addr), DE (X.blk s H scope (compEnvC scope cl C X.env) fp) W elt te) (hs : ∀ x, foldedSetIterable iter X.env x = pure x := by intro _; rfl) (hs1 : ∀ env x, foldedSetIterable iter1 env x = pure x := by intro _ _; rfl) :
    DF X W (.ListComp elt [⟨tg, iter, ifs, 0⟩, ⟨tg1, iter1, ifs1, 0⟩] scope pos) (fLc2 ti (own.map (·.2)) f tt ti1 vs1 f1 tt1 te) := by
  obtain ⟨wi, h1, h2⟩ := hi
  obtain ⟨tt', t1, t2⟩ := ht
  obtain ⟨tt1', t3, t4⟩ := ht1
  obtain ⟨wi1, i1, i2⟩ := hi1
  refine ⟨_, pe_lc2 hc hN h1 ok hv hg t1 i1 hg1 t3 (fun s H C cl fp => (he s H C cl fp).pe) hs hs1, fun B Ex ρ ω σ H Q Q' rep q fin => h2 B Ex ρ ω σ H _ _ rep q fun items ω1 J H1 S q1 k1 w1 hm _ wk D hD => ?_⟩
  refine lc2_run rep k1 w1 hm wk hD G G1 t2 t4 i2 (fun B Ex ρ ω σ H Q Q' rep q f => ⟨B, Ex, ρ, ω, Q, rep, q, f⟩) q1 fun acc ds ω' H' ⟨ds', e, q'⟩ k' w' hd dl => ?_
  cases e
  exact fin _ _ ⟨D, .own ds, ω', rfl, k1.back w1 hD, k', w', rfl, ⟨.inr rfl, acc, hd, dl⟩, q'⟩
/-- [e for x in xs if t], a new list -/
theorem df_lc {cl : Bool} {elt tg iter : Expr} {ifs : List Expr} {scope : Scope} {own : List (Str × Nat)} {ti : DIt W} {g : TG} {f : D → Rho → Option Rho} {tt : DB W} {te : DT W} (hc : X.calm = true) (hN : X.N.Nodup) (hi : DI cl X W tg iter ti) (ok : BlkOk X.N X.env.scope scope own)
    (G : Gf g (own.map (·.2)) f) (hg : ∀ (s : Shared) (H : Hp) (C : Addr) (cl : List (Str × Addr)) (fp : List Addr), PG (X.blk s H scope (compEnvC scope cl C X.env) fp) tg g)
    (ht : ∃ tt', (∀ (s : Shared) (H : Hp) (C : Addr) (cl : List (Str × Addr)) (fp : List Addr), PTs (X.blk s H scope (compEnvC scope cl C X.env) fp) ifs tt') ∧ RunT W tt' tt)
    (he : ∀ (s : Shared) (H : Hp) (C : Addr) (cl : List (Str × Addr)) (fp : List Addr), DE (X.blk s H scope (compEnvC scope cl C X.env) fp) W elt te) (hs : ∀ x, foldedSetIterable iter X.env x = pure x := by intro _; rfl) :
    DF X W (.ListComp elt [⟨tg, iter, ifs, 0⟩] scope pos) (fLc ti (own.map (·.2)) f tt te) := by
  obtain ⟨wi, h1, h2⟩ := hi
  obtain ⟨tt', t1, t2⟩ := ht
  refine ⟨_, pe_lc hc hN h1 ok hg t1 (fun s H C cl fp => (he s H C cl fp).pe) hs, fun B Ex ρ ω σ H Q Q' rep q fin => h2 B Ex ρ ω σ H _ _ rep q fun items ω1 J H1 S q1 k1 w1 hm _ wk D hD => ?_⟩
  refine lc_run rep k1 w1 hm wk hD G t2 (fun B Ex ρ ω σ H Q Q' rep q f => ⟨B, Ex, ρ, ω, Q, rep, q, f⟩) q1 fun acc ds ω' H' ⟨ds', e, q'⟩ k' w' hd dl => ?_
  cases e
  exact fin _ _ ⟨D, .own ds, ω', rfl, k1.back w1 hD, k', w', rfl, ⟨.inr rfl, acc, hd, dl⟩, q'⟩
/-- walks within a block -/
theorem bi_tup {sc : Scope} {tg e : Expr} {te : DT W} (h : ∀ (s : Shared) (H : Hp) (C : Addr) (cl : List (Str × Addr)) (fp : List Addr), DE (X.blk s H sc (compEnvC sc cl C X.env) fp) W e te) :
    ∃ wi1, (∀ (s : Shared) (H : Hp) (C : Addr) (cl : List (Str × Addr)) (fp : List Addr), PI (X.blk s H sc (compEnvC sc cl C X.env) fp) tg e wi1) ∧ RunI W wi1 (dItT te) :=
  ⟨iTup X.K (tD Cl W te), fun s H C cl fp => pi_tup (h s H C cl fp).pe, fun B Ex ρ ω σ H Q R' rep q f => ⟨B, Ex, ρ, ω, _, rep, q, fun d ω' v H' ⟨ds, e, q'⟩ k w z => by
    subst e
    obtain ⟨a, vs, rfl, h1, ha, h2⟩ := (Bq.of (W := W) z).ofT
    exact ⟨a, rfl, ⟨vs, h1.sq (K := X.K)⟩, f ds ω' _ H' (fun b => ¬ Ex b) q' k w (fun b n m => n (rep.muEx m)) (fun _ b n => n) (wk_tup h1 ha h2 fun _ n => n)⟩⟩⟩
theorem bi_list {sc : Scope} {tg e : Expr} {te : DT W} (h : ∀ (s : Shared) (H : Hp) (C : Addr) (cl : List (Str × Addr)) (fp : List Addr), DE (X.blk s H sc (compEnvC sc cl C X.env) fp) W e te) :
    ∃ wi1, (∀ (s : Shared) (H : Hp) (C : Addr) (cl : List (Str × Addr)) (fp : List Addr), PI (X.blk s H sc (compEnvC sc cl C X.env) fp) tg e wi1) ∧ RunI W wi1 (dItL te) :=
  ⟨iList X.K (tD Cl W te), fun s H C cl fp => pi_list (h s H C cl fp).pe, fun B Ex ρ ω σ H Q R' rep q f => ⟨B, Ex, ρ, ω, _, rep, q, fun d ω' v H' ⟨ds, e, q'⟩ k w z => by
    subst e
    obtain ⟨a, vs, rfl, h1, h2⟩ := (Bq.of (W := W) z).ofL
    have ha : ¬ Ex a := by cases z; assumption
    exact ⟨a, rfl, ⟨vs, SqL.of h1⟩, f ds ω' _ H' (fun b => ¬ Ex b) q' k w (fun b n m => n (rep.muEx m)) (fun _ b n => n) (wk_list h1 ha h2 fun _ n => n)⟩⟩⟩
end
end Tk

namespace Tk
open PySem PySem.Spec PyProof.Rows L2
/-! ## a, b, c = e1, e2, e3 -/
def tPar3 (i j k : Nat) (ta : TA) : TS := fun D σ H => ta σ H fun vs H1 => ∃ u v w, vs = [u, v, w] ∧ D.nx (((σ.set i (some u)).set j (some v)).set k (some w)) H1
theorem ps_par3 {X : Cx} {pos : Pos} {i j k : Nat} {x y z : Str} {a b c : Expr} {ta : TA} {px py pz pt : Pos} {kt k2 pt2} (hc : X.calm = true) (hN : X.N.Nodup) (hi : X.N[i]? = some x) (hj : X.N[j]? = some y) (hk : X.N[k]? = some z) (hij : i ≠ j) (hik : i ≠ k) (hjk : j ≠ k)
    (hx : X.env.scope.names.lookup x = some .local) (hy : X.env.scope.names.lookup y = some .local) (hz : X.env.scope.names.lookup z = some .local) (ha : PA X [a, b, c] ta)
    (hw : swappedStores [.Tuple [.Name x px, .Name y py, .Name z pz] kt pt] (.Tuple [a, b, c] k2 pt2) X.env = pure (some [x, y, z]))
    (hs : swapsWithSole [.Tuple [.Name x px, .Name y py, .Name z pz] kt pt] (.Tuple [a, b, c] k2 pt2) pos.line X.env = pure false := by rfl) :
    PS X (.Assign [.Tuple [.Name x px, .Name y py, .Name z pz] kt pt] (.Tuple [a, b, c] k2 pt2) pos) (tPar3 i j k ta) := by
  constructor
  intro pins s σ H D I h
  rw [exec_Assign_arm]
  refine wpAny_bind (wpAny_standAt ?_)
  rw [hs]
  refine wpAny_bind (wpAny_pure ?_)
  rw [if_neg (by decide)]
  refine wpAny_bind (Tuple_ (thn (ha.run _ pins s σ H _ I h) ?_))
  rintro us s1 ⟨vs, H1, I1, r1, v1, v2, v3, rfl, q1⟩
  obtain ⟨u1, u2, u3, rfl, e1, e2, e3⟩ : ∃ u1 u2 u3, us = [u1, u2, u3] ∧ RelV v1 u1 ∧ RelV v2 u2 ∧ RelV v3 u3 := by
    cases r1 with
    | cons p q => cases q with
      | cons p' q' => cases q' with
        | cons p'' q'' => cases q''; exact ⟨_, _, _, rfl, p, p', p''⟩
  refine wpAny_newObj_type ?_ (by show 3 ≤ sizeLine; decide)
  have J2 : Inv X pins σ H1 { s1 with heap := s1.heap.push { cls := .type "tuple", data := .seq [u1, u2, u3].toArray } } := I1.kept (t' := s1.toks) fun b o e => Heap.get?_push_of_some _ e
  rw [hw]
  refine wpAny_bind (wpAny_pure ?_)
  show wpAny (model X.prog X.w) X.A (do rule "assign.swapped-stores"; let items ← unpackItems (.ref s1.heap.objs.size) 3 none; assignInOrder [fun v => bindName X.env z v, fun v => bindName X.env y v, fun v => bindName X.env x v] items.reverse; pure Flow.next) _ _ _
  refine wpAny_bind (wpAny_rule (wpAny_bind (unpackItems_tuple (items := #[u1, u2, u3]) (I1.ok.hd hc) (IsTup.new s1.heap _) fun h' hx' => ?_)))
  have J3 := J2.kept (h' := h') (t' := s1.toks) fun b o e => hx' b o (Nat.ne_of_lt (Heap.lt_size e)) e
  show wpAny _ _ (assignInOrder [fun v => bindName X.env z v, fun v => bindName X.env y v, fun v => bindName X.env x v] [u3, u2, u1] >>= fun _ => pure Flow.next) _ _ _
  refine wpAny_bind (assignInOrder_cons (wpAny_bindName (store_ok J3 hN hk (.inl hz) e3 (fun s2 J4 => ?_) (.inr hz))))
  refine assignInOrder_cons (wpAny_bindName (store_ok J4 hN hj (.inl hy) e2 (fun s3 J5 => ?_) (.inr hy)))
  refine assignInOrder_cons (wpAny_bindName (store_ok J5 hN hi (.inl hx) e1 (fun s4 J6 => assignInOrder_nil (wpAny_pure ?_)) (.inr hx)))
  rw [List.set_comm _ _ (Ne.symm hjk), List.set_comm _ _ (Ne.symm hik), List.set_comm _ _ (Ne.symm hij)] at J6
  exact ⟨_, H1, J6, q1⟩
section
variable {R S : RQ} {X : Cx} {W : Wo} {e a b c : Expr} {es : List Expr} {pos : Pos} {te ta tb tc : DT W}
def dPar3 {W : Wo} (i j k : Nat) (ta tb tc : DT W) : DTS W := fun D0 ρ ω => ta ρ ω fun x ω1 => tb ρ ω1 fun y ω2 => tc ρ ω2 fun z ω3 => D0.nx (((ρ.set i (some (.d x))).set j (some (.d y))).set k (some (.d z))) ω3
theorem ds_par3 {i j k : Nat} {x y z : Str} {px py pz pt : Pos} {kt k2 pt2} (hc : X.calm = true) (hN : X.N.Nodup) (hi : X.N[i]? = some x) (hj : X.N[j]? = some y) (hk : X.N[k]? = some z) (hij : i ≠ j) (hik : i ≠ k) (hjk : j ≠ k)
    (hx : X.env.scope.names.lookup x = some .local) (hy : X.env.scope.names.lookup y = some .local) (hz : X.env.scope.names.lookup z = some .local) (ha : DE X W a ta) (hb : DE X W b tb) (hc3 : DE X W c tc)
    (hw : swappedStores [.Tuple [.Name x px, .Name y py, .Name z pz] kt pt] (.Tuple [a, b, c] k2 pt2) X.env = pure (some [x, y, z]))
    (he : starEach [a, b, c] X.env = (false, eval a X.env) :: starEach [b, c] X.env := by rfl) (he2 : starEach [b, c] X.env = (false, eval b X.env) :: starEach [c] X.env := by rfl) (he3 : starEach [c] X.env = (false, eval c X.env) :: starEach [] X.env := by rfl)
    (hs : swapsWithSole [.Tuple [.Name x px, .Name y py, .Name z pz] kt pt] (.Tuple [a, b, c] k2 pt2) pos.line X.env = pure false := by rfl) :
    DS X W (.Assign [.Tuple [.Name x px, .Name y py, .Name z pz] kt pt] (.Tuple [a, b, c] k2 pt2) pos) (dPar3 i j k ta tb tc) :=
  DS.of (ps_par3 hc hN hi hj hk hij hik hjk hx hy hz (pa_cons ha.pe (pa_cons hb.pe (pa_cons hc3.pe pa_nil he3) he2) he) hw hs) fun B Ex ρ ω σ H D0 rep q => ⟨B, Ex, ρ, ω, _, rep, q, fun d1 ω1 v1 H1 q1 k1 w1 z1 =>
    have r1 := rep.go k1 w1
    ⟨B, Ex, ρ, ω1, _, r1, q1, fun d2 ω2 v2 H2 q2 k2 w2 z2 =>
      have r2 := r1.go k2 w2
      ⟨B, Ex, ρ, ω2, _, r2, q2, fun d3 ω3 v3 H3 q3 k3 w3 z3 =>
        have r3 := r2.go k3 w3
        ⟨v1, v2, v3, rfl, Ex, _, ω3, (rep.stp k1 w1).trans ((r1.stp k2 w2).trans (r2.stp k3 w3)), ((r3.set (r1.keep (k2.trans k3) z1) i).set (r2.keep k3 z2) j).set z3 k, q3⟩⟩⟩⟩
end
/-! ## t[::-1] -/
theorem adjust_rev (n : Nat) : Builtin.Slice.sliceAdjust none none (-1) (n : Int) = ((n : Int) - 1, -1) := by
  unfold Builtin.Slice.sliceAdjust
  simp
theorem places_rev (n : Nat) : Builtin.Slice.slicePlaces ((n : Int) - 1) (-1) (-1) = n := by
  unfold Builtin.Slice.slicePlaces
  have h1 : ¬ ((-1 : Int) > 0) := by decide
  simp only [h1, if_false]
  by_cases h : n = 0
  · subst h; rfl
  · rw [if_pos (by omega)]
    rw [show (- -1 : Int) = 1 from by decide, Int.ediv_one]
    omega
section
variable {prog : Program} {w : World} {A : Around} {E : Value → Shared → Prop} {s : Shared}
theorem slice_rev {sl : Addr} {vs : Value} {n : Nat} {Q : Int × Int × Nat → Shared → Prop} (hs : s.heap.IsSliceOf sl .none .none vs) (ps : IsPart vs (some (-1))) (h : Q ((n : Int) - 1, -1, n) s) :
    wpAny (model prog w) A (Builtin.Slice.sliceApplied (.ref sl) (pure (n : Int))) Q E s := by
  obtain ⟨os, hos, hcs, hds⟩ := id hs
  unfold Builtin.Slice.sliceApplied Builtin.Slice.sliceFields
  refine wpAny_bind (wpAny_bind (wpAny_field hos hds (x := .none) rfl (wpAny_bind (wpAny_field hos hds (x := .none) rfl (wpAny_bind (wpAny_field hos hds (x := vs) rfl (wpAny_pure ?_)))))))
  refine wpAny_bind (HT.slicePart_ ps ?_)
  show wpAny _ _ (if ((-1 : Int) == 0) = true then _ else _) _ _ s
  rw [if_neg (by decide)]
  refine wpAny_bind (HT.slicePart_ .none (wpAny_bind (HT.slicePart_ .none (wpAny_bind (wpAny_pure ?_)))))
  show wpAny _ _ (match Builtin.Slice.sliceAdjust none none (-1) (n : Int) with | (lo, hi) => pure (lo, (-1 : Int), Builtin.Slice.slicePlaces lo hi (-1))) _ _ s
  rw [adjust_rev n]
  show wpAny _ _ (pure ((n : Int) - 1, (-1 : Int), Builtin.Slice.slicePlaces ((n : Int) - 1) (-1) (-1))) _ _ s
  rw [places_rev]
  exact wpAny_pure h
theorem fmap_congr {α β : Type} {f g : α → Option β} : ∀ {xs : List α}, (∀ x ∈ xs, f x = g x) → xs.filterMap f = xs.filterMap g
  | [], _ => rfl
  | x :: xs, h => by
    rw [List.filterMap_cons, List.filterMap_cons, h x List.mem_cons_self, fmap_congr fun y hy => h y (List.mem_cons_of_mem _ hy)]
theorem pick_rev (xs : Array Value) : ((List.range xs.size).filterMap fun (m : Nat) => xs[((xs.size : Int) - 1 + (m : Int) * (-1)).toNat]?).toArray = xs.toList.reverse.toArray := by
  congr 1
  have e : ∀ m ∈ List.range xs.size, xs[((xs.size : Int) - 1 + (m : Int) * (-1)).toNat]? = xs.toList.reverse[m]? := fun m hm => by
    have hm' := List.mem_range.mp hm
    have e1 : ((xs.size : Int) - 1 + (m : Int) * (-1)).toNat = xs.size - 1 - m := by omega
    rw [e1, List.getElem?_reverse (by rw [Array.length_toList]; exact hm'), Array.length_toList, Array.getElem?_toList]
  rw [fmap_congr e]
  have : ∀ ys : List Value, (List.range ys.length).filterMap (fun m => ys[m]?) = ys := fun ys => by
    induction ys with
    | nil => rfl
    | cons y ys ih =>
      rw [List.length_cons, List.range_succ_eq_map, List.filterMap_cons]
      simp only [List.getElem?_cons_zero]
      rw [List.filterMap_map]
      have e2 : ((fun m => (y :: ys)[m]?) ∘ Nat.succ) = fun m => ys[m]? := rfl
      rw [e2, ih]
  have h2 := this xs.toList.reverse
  rw [List.length_reverse, Array.length_toList] at h2
  exact h2
theorem getItem_rev {t sl : Addr} {items : Array Value} {vs : Value} {Q : Value → Shared → Prop} (ht : IsTup s.heap t items) (hs : s.heap.IsSliceOf sl .none .none vs) (ps : IsPart vs (some (-1)))
    (h : Q (.ref s.heap.objs.size) { s with heap := s.heap.push { cls := .type "tuple", data := .seq items.toList.reverse.toArray } }) (hsz : items.size ≤ sizeLine) : wpAny (model prog w) A (getItem (.ref t) (.ref sl)) Q E s := by
  have small : sizeOk (.seq items.toList.reverse.toArray) := by
    show items.toList.reverse.toArray.size ≤ sizeLine
    rw [List.size_toArray, List.length_reverse, Array.length_toList]
    exact hsz
  obtain ⟨os, hos, hcs, hds⟩ := id hs
  have hTs : s.TypeIs (.ref sl) "slice" := ⟨os, hos, hcs⟩
  unfold getItem
  try with_reducible refine wpAny_holding ?_
  first | refine wpAny_bind (wpAny_pure ?_) | skip
  refine wpAny_bind (wpAny_sequenceKey ht.typeIs (by decide) ?_)
  refine wpAny_bind (wpAny_callSpecial?_slot (name := Str.ofString "__getitem__") ht.typeIs PyProof.Rows.slot_tuple_getitem (wpAny_call_entry PyProof.Rows.slot_tuple_getitem ht.typeIs entry_tuple_getitem ?_ (args_tuple_getitem _ _)))
  show wpAny _ _ (Builtin.Tuple.tupleItemsOf (.ref t) >>= _) _ _ s
  refine wpAny_bind (tupleItemsOf_ ht (wpAny_bind (wpAny_typeOf hTs ?_)))
  rw [if_pos (by decide)]
  refine wpAny_bind (slice_rev hs ps ?_)
  have hno : ¬ (((items.size : Int) - 1 == 0 && (-1 : Int) == 1 && items.size == items.size) = true) := by
    rw [show ((-1 : Int) == 1) = false from by decide, Bool.and_false, Bool.false_and]
    exact Bool.false_ne_true
  show wpAny _ _ (if ((items.size : Int) - 1 == 0 && (-1 : Int) == 1 && items.size == items.size) = true then _ else _) _ _ s
  rw [if_neg hno, pick_rev]
  first
    | exact wpAny_bind (m := Builtin.Tuple.tupleExact _) (wpAny_newObj_type (wpAny_pure ⟨_, rfl, wpAny_pure h⟩) small)
    | exact wpAny_bind (m := Builtin.Tuple.tupleExact _) (wpAny_newObj_type (wpAny_bind (wpAny_pure (wpAny_pure ⟨_, rfl, wpAny_pure h⟩))) small)
    | exact wpAny_bind (wpAny_bind (m := Builtin.Tuple.tupleExact _) (wpAny_newObj_type (wpAny_pure (wpAny_pure ⟨_, rfl, wpAny_pure h⟩)) small))
    | exact wpAny_bind (wpAny_bind (m := Builtin.Tuple.tupleExact _) (wpAny_newObj_type (wpAny_pure ⟨_, rfl, wpAny_pure h⟩) small))
end
def tRevA (K : PySem.W.Frag) (te : TE) : TE := fun σ H Q => te σ H fun x H1 => ∃ a xs, x = .ref a ∧ SqT K H1 a xs ∧ ∀ (p : Addr) (o : Obj), H1 p = none → o.dict = none → Q (.ref p) (upd H1 p (.frz o (.tup xs.reverse)))
theorem pe_revT {X : Cx} {e : Expr} {te : TE} {k : Nat} {p1 p2 p3 pos : Pos} (he : PE X e te) : PE X (.Subscript e (.Slice none none (some (.UnaryOp .USub (.Constant (.int 1) k p1) p2)) p3) pos) (tRevA X.K te) := by
  constructor
  intro pins s σ H Q I h
  refine Subscript_ (thn (he.run pins s σ H _ I h) ?_)
  rintro v s1 ⟨x, H1, I1, r1, a, xs, rfl, hx, q⟩
  cases r1
  have minus : PO X (some (.UnaryOp .USub (.Constant (.int 1) k p1) p2)) (tPart (tUn (rU fun i => .int (-i)) (tC (.int 1)))) := po_some (pe_un un_neg pe_int)
  refine wpAny_Slice (thn (po_none.run pins s1 σ H1 (fun o H2 => o = none ∧ H2 = H1) I1 ⟨rfl, rfl⟩) ?_)
  rintro vl s2 ⟨l, H2, I2, pl, rfl, rfl⟩
  refine thn (po_none.run pins s2 σ H2 (fun o H3 => o = none ∧ H3 = H2) I2 ⟨rfl, rfl⟩) ?_
  rintro vu s3 ⟨u, H3, I3, pu, rfl, rfl⟩
  refine thn (minus.run pins s3 σ H3 (fun o H4 => o = some (-1) ∧ H4 = H3) I3 ⟨1, rfl, -1, rfl, rfl, rfl⟩) ?_
  rintro vs s4 ⟨o, H4, I4, ps, rfl, rfl⟩
  cases pl
  cases pu
  have I5 : Inv X pins σ H4 { s4 with heap := s4.heap.push { cls := .type "slice", data := .fields #[.none, .none, vs] } } := I4.kept (t' := s4.toks) fun b ob q => Heap.get?_push_of_some _ q
  obtain ⟨its, r, ht, hz⟩ := I5.tuple hx
  have many := r.length
  show wpAny (model X.prog X.w) X.A (subscriptTail e (.Slice none none (some (.UnaryOp .USub (.Constant (.int 1) k p1) p2)) p3) (.ref a) (.ref s4.heap.objs.size)) (EP X pins σ Q) X.xe { s4 with heap := s4.heap.push { cls := .type "slice", data := .fields #[.none, .none, vs] } }
  refine tail_any (ops := [.ref a, .ref s4.heap.objs.size]) ht.typeIs (PyProof.Rows.slot_tuple_getitem.lookup) ?_ (by with_unfolding_all rfl)
  refine getItem_rev ht (Heap.IsSliceOf.new _ .none .none vs) ps ?_ (by rw [List.size_toArray]; omega)
  exact ⟨.ref _, _, laidT I5 r.reverse (by rw [List.length_reverse]; exact hz), rfl, q _ _ (I5.hok.fresh (Nat.le_refl _)) rfl⟩
theorem DqL.rev {H : Hp} {Ex : Addr → Prop} : ∀ {vs : List V} {ds : List D}, DqL H Ex vs ds → DqL H Ex vs.reverse ds.reverse
  | _, _, .nil => .nil
  | _, _, .cons h t => by
    rw [List.reverse_cons, List.reverse_cons]
    exact (DqL.rev t).append (.cons h .nil)
section
variable {X : Cx} {W : Wo} {e : Expr} {te : DT W} {k : Nat} {p1 p2 p3 pos : Pos}
def revT : D → Option D
  | .tup xs => some (.tup xs.reverse)
  | _ => none
def revL : D → Option D
  | .lst xs => some (.lst xs.reverse)
  | _ => none
theorem de_revT (he : DE X W e te) : DE X W (.Subscript e (.Slice none none (some (.UnaryOp .USub (.Constant (.int 1) k p1) p2)) p3) pos) (dF1 revT te) :=
  DX.of (pe_revT he.pe) fun B Ex ρ ω σ H Q rep q => ⟨B, Ex, ρ, ω, _, rep, q, fun d ω1 v H1 ⟨z, e, q1⟩ k1 w1 z1 => by
    unfold revT at e
    split at e
    · cases e
      obtain ⟨p, vs, rfl, h1, nE, h2⟩ := (Bq.of (W := W) z1).ofT
      exact ⟨p, vs, rfl, h1.sq, fun p' o n od => ⟨_, ω1, k1.trans (Kp.same (same_upd n)), W.gr w1 (same_upd n), .tup upd_same od ((rep.go k1 w1).new n) ((h2.rev).same (same_upd n)), q1⟩⟩
    · cases e⟩
end
end Tk

namespace Tk
open PySem PySem.Spec PyProof.Rows L2
/-! ## methods and classes of the module -/
structure Dm (K : PySem.W.Frag) (C : Addr) (m qual : Str) (st : Stmt) (ps : List Str) (f : Addr) (fd : FuncData) : Prop where
  F : Fun K m qual st f fd
  m : Meth K C m f
  b : Binds K fd ps []
structure Dk (K : PySem.W.Frag) (mg : Str → Option Value) (x : Str) (C : Addr) (qual : Str) (st : Stmt) (ps : List Str) (dvs : List V) (f : Addr) (fd : FuncData) : Prop where
  F : FunD K "__init__" qual (defArgs st) (defBody st) (defScope st) dvs [] f fd
  M : Mk K C f
  m : mg x = some (.ref C)
  b : Binds K fd ps []
theorem okIx {P : Program} {w : World} {K : PySem.W.Frag} {mg : Str → Option Value} {base : Heap} {W : Wo} {C : Addr} {x qual : Str} {params : Arguments} {body : List Stmt} {scope : Scope} {dvs : List V} {kws : List (Str × V)} {f : Addr} {fd : FuncData} {N ps : List Str} {k : Nat} {S : SpI W}
    (F : FunD K x qual params body scope dvs kws f fd) (Sc : FnScope N ps scope) (len : ∀ ds ω Q, S ds ω Q → ds.length + 1 = ps.length)
    (hbody : ∀ (cdv : Value) (A : Around) (outer : List Env) (s : Shared) (H : Hp) (E : XK) (y dy : Addr) (ds : List D) (ω : W.Om) (Q : List Str → List D → W.Om → Prop), Gd A → Room k (A.deeper (envOfC qual scope s.heap.objs.size f cdv)) → S ds ω Q →
      ∃ t, DSs (cxOf CX0 P w K mg base N qual scope f cdv A outer s H E).nox (SelfW W C y dy) body t ∧ t { nx := fun _ ω' => Q ω'.2.1 ω'.2.2 ω'.1, rt := fun _ _ => False } (startD N (.ob y :: ds)) (ω, [], [])) :
    FnG P w K mg base CX0 (k + 1) f fd ps (spI W C S) := by
  obtain ⟨oc, od, dV, kV, doc, pm, an, cdv, ct, osl, e, lk, hcd, _, _⟩ := F.ex
  subst e
  refine fnG_of lk hcd Sc (fun vs H Q E ⟨y, dy, as, Ex, ω, ds, Q0, e, _, _, _, _, _, q, h, _⟩ => by rw [e, List.length_cons, q.length]; exact len _ _ _ h) ?_
  intro A outer s H vs Q E g hr ⟨y, dy, as, Ex, ω, ds, Q0, e, hx, wo, mu, tr, nE, q, h, fin⟩
  subst e
  obtain ⟨t, h1, h2⟩ := hbody cdv A outer s H E y dy ds ω Q0 g hr h
  have nMu : ¬ W.Mu y := fun m => nE (mu y m)
  have wo' : (SelfW W C y dy).at (fun b => Ex b ∨ b = y) (ω, [], []) H :=
    ⟨W.less wo fun b m => by
      rcases m with ⟨m, n⟩ | m
      · exact .inl ⟨m, fun z => n (.inl z)⟩
      · exact .inl ⟨.inr m, by rw [m]; exact nMu⟩, fun m => m.2 (.inr rfl), [], hx, rfl, .nil⟩
  refine ⟨_, h1.pss.nox, ⟨H, fun b => Ex b ∨ b = y⟩, fun b => Ex b ∨ b = y, _, (ω, [], []), _, rep_start wo' (fun a m => m.elim (fun m => .inl (mu a m)) .inr) (fun a m => ?_) (.cons (.ob y) q) (Free.bb _ _ _), h2,
    ⟨fun σ' H' ⟨Ex', ρ', ω', s', r, z⟩ => ?_, fun v H' ⟨d, ω', k, w, z, q'⟩ => q'.elim, fun σ' H' ⟨_, _, _, _, _, z⟩ => z.elim, fun σ' H' ⟨_, _, _, _, _, z⟩ => z.elim⟩⟩
  · rcases m with m | m
    · exact tr a m
    · rw [show a = y from m, hx]; exact fun z => nomatch z
  · obtain ⟨g1, g2, ws, gx, gl, gd⟩ := r.wo
    refine fin _ _ ws ω'.1 H' z (fun b o e n m => r.kp b o e fun z => z.elim m n) (W.less g1 fun b m => ?_) gx gl (gd.to fun a o e n => ⟨e, fun m => n ?_⟩)
    · by_cases e : b = y
      · exact .inl (.inr e)
      · exact .inl (.inl ⟨r.sub b m.1, fun z => z.elim m.2 e⟩)
    · by_cases e : a = y
      · exact .inr (.inr e)
      · by_cases e2 : W.Mu a
        · exact .inr (.inl e2)
        · exact .inl ⟨r.sub a m, fun z => z.elim e2 e⟩
theorem gf_nameIn (i : Nat) {vs : List Nat} (h : i ∈ vs) : Gf (gName i) vs (setD i) := ⟨fun {W B Ex H σ ρ ρ' ω v d Q} rep q e k => by
  cases e
  exact k _ (rep.set q i) (wipe_set σ i _ h)⟩
/-- a block within a block -/
theorem relabel_look (env : Env) (x : Str) : ∀ names : List (Str × NameKind), (match names.lookup x with | some .cell => true | some .free => true | _ => false) = true →
    (match (names.map fun (q : Str × NameKind) => match q with | (n, k) => if (k == .free && env.scope.kind == .function && env.kindOf n == some .cell) = true then (n, NameKind.cell) else (n, k)).lookup x with | some .cell => true | some .free => true | _ => false) = true
  | [], h => by cases h
  | (n, k) :: r, h => by
    rw [List.lookup_cons] at h
    have ih := relabel_look env x r
    rw [List.map_cons]
    by_cases e : (x == n) = true
    · rw [e] at h
      show (match (List.lookup x ((if (k == .free && env.scope.kind == .function && env.kindOf n == some .cell) = true then (n, NameKind.cell) else (n, k)) :: _)) with | some .cell => true | some .free => true | _ => false) = true
      generalize (k == NameKind.free && env.scope.kind == .function && env.kindOf n == some .cell) = b
      cases b
      · rw [if_neg Bool.false_ne_true, List.lookup_cons, e]; exact h
      · rw [if_pos rfl, List.lookup_cons, e]
    · rw [Bool.not_eq_true] at e
      rw [e] at h
      show (match (List.lookup x ((if (k == .free && env.scope.kind == .function && env.kindOf n == some .cell) = true then (n, NameKind.cell) else (n, k)) :: _)) with | some .cell => true | some .free => true | _ => false) = true
      generalize (k == NameKind.free && env.scope.kind == .function && env.kindOf n == some .cell) = b
      cases b
      · rw [if_neg Bool.false_ne_true, List.lookup_cons, e]; exact ih h
      · rw [if_pos rfl, List.lookup_cons, e]; exact ih h
theorem blkOk_in {N : List Str} {sc scope : Scope} {own : List (Str × Nat)} {env : Env} (h : blkC N sc scope own = true) : BlkOk N (relabel sc env) scope own := by
  refine blkOk_by ?_
  unfold blkC at h ⊢
  rw [Bool.and_eq_true] at h ⊢
  refine ⟨h.1, ?_⟩
  rw [List.all_eq_true] at h ⊢
  intro y hy
  have := h.2 y hy
  cases e : y.2 with
  | free =>
    rw [e] at this
    exact relabel_look env y.1 sc.names this
  | _ => first | (rw [e] at this; exact this) | rfl | trivial
/-! ## words of the laws -/
def numD (d : D) (l h : Int) : Bool := match d with
  | .int i => decide (l ≤ i) && decide (i ≤ h)
  | _ => false
def wordD (d : D) (most : Int) : Bool := match d with
  | .str x => decide ((1 : Int) ≤ x.length) && decide ((x.length : Int) ≤ most) && signsAll abc x
  | _ => false
def cellD (d : D) : Bool := isN d || numD d (-999999999999999) 999999999999999 || wordD d 12
/-- a pick out of some -/
def pickS (p : Pn) (ds : List D) (t : Nat) (Q : D → Nat → Prop) : Prop := ∃ s xs, ds = [.ob p, s] ∧ (s = .lst xs ∨ s = .tup xs ∨ ∃ z, s = .str z ∧ xs = Tk.signs z) ∧ 0 < xs.length ∧ xs.length ≤ 1000 ∧ t < 2 ^ 60 ∧ ∀ x ∈ xs, Q x (t + 1)
theorem atI_in {α : Type} {xs : List α} {k : Int} (h0 : 0 ≤ k) (h1 : k < xs.length) : ∃ x, L2.atI xs k = some x ∧ x ∈ xs := by
  have hk : k.toNat < xs.length := by omega
  refine ⟨xs[k.toNat], ?_, List.getElem_mem hk⟩
  have e := L2.atI_nat (xs := xs) (j := k.toNat) (List.getElem?_eq_getElem hk)
  rw [Int.toNat_of_nonneg h0] at e
  exact e
theorem ix_i {xs : List D} {k : Int} {Q : D → Prop} {n : Nat} (h0 : 0 ≤ k) (hn : xs.length = n) (h1 : k < n) (q : ∀ x ∈ xs, Q x) : ∃ z, ixD (.lst xs) (.int k) = some z ∧ Q z := by
  obtain ⟨x, e, hx⟩ := atI_in h0 (show k < xs.length by rw [hn]; exact h1)
  exact ⟨x, e, q x hx⟩
theorem abc_small : ∀ c ∈ abc.cps.toList, c < 128 := by decide +kernel
theorem cell_sh {d : D} (h : cellD d = true) : Sh 45 100 0 d := by
  cases d <;> first | exact Sh.non | exact Sh.bl | skip
  · rename_i i
    simp [cellD, numD, wordD] at h
    exact Sh.int (by omega) (by decide) (by decide)
  · rename_i x
    simp [cellD, numD, wordD] at h
    obtain ⟨⟨h1, h2⟩, h3⟩ := h
    have hs : ∀ c ∈ x.cps.toList, c < 128 := fun c hc => abc_small c (of_decide_eq_true (List.all_eq_true.mp h3 c hc))
    refine ⟨?_, rfl, rfl, ?_, ?_, Nat.zero_le _⟩
    · show (decide (x.length ≤ 1000) && PyData.strOk x) = true
      rw [Bool.and_eq_true, decide_eq_true_eq]
      refine ⟨by omega, ?_⟩
      show x.cps.all (· < 0x110000) = true
      rw [← Array.all_toList, List.all_eq_true]
      intro c hc
      have := hs c hc
      simp; omega
    · show (x.cps.toList.all fun c => decide (c < 16 ^ 8)) = true
      rw [List.all_eq_true]
      intro c hc
      have := hs c hc
      simp; omega
    · show x.length ≤ 100
      omega
  all_goals simp [cellD, numD, wordD] at h
/-- a cell -/
def lcellS (p : Pn) (ds : List D) (t : Nat) (Q : D → Nat → Prop) : Prop := ds = [.ob p] ∧ t + 12 < 2 ^ 60 ∧ ∀ d t', cellD d = true → t' ≤ t + 12 → Q d t'
end Tk

namespace Tk
open PySem PySem.Spec PyProof.Rows L2
/-! ## texts by their signs -/
def tx (l : List Nat) : Str := ⟨l.toArray⟩
theorem tx_len (l : List Nat) : (tx l).length = l.length := List.size_toArray
theorem tx_cps (l : List Nat) : (tx l).cps.toList = l := rfl
theorem tx_of (x : Str) : x = tx x.cps.toList := rfl
theorem tx_inj {a b : List Nat} (h : tx a = tx b) : a = b := congrArg (fun x => x.cps.toList) h
theorem tx_app (a b : List Nat) : tx a ++ tx b = tx (a ++ b) := by
  have : (tx a ++ tx b).cps = (tx (a ++ b)).cps := by
    rw [PySem.Str.cps_append]
    simp [tx]
  exact congrArg (fun z => (⟨z⟩ : Str)) this
theorem cut_tx (l : List Nat) (lo hi : Option Int) : cutS (tx l) lo hi = tx ((l.drop (HT.sIx l.length 0 lo)).take (HT.sIx l.length l.length hi - HT.sIx l.length 0 lo)) := by
  unfold cutS
  rw [tx_len]
  rfl
theorem cut_to (l : List Nat) {n : Nat} : cutS (tx l) none (some (n : Int)) = tx (l.take n) := by
  rw [cut_tx, HT.sIx_none, HT.sIx_nat, List.drop_zero, Nat.sub_zero, ← List.take_eq_take_min]
theorem cut_from (l : List Nat) {n : Nat} : cutS (tx l) (some (n : Int)) none = tx (l.drop n) := by
  rw [cut_tx, HT.sIx_none, HT.sIx_nat]
  by_cases h : n ≤ l.length
  · rw [Nat.min_eq_left h, List.take_of_length_le (by rw [List.length_drop]; omega)]
  · rw [Nat.min_eq_right (by omega), List.drop_length, List.drop_of_length_le (by omega), List.take_nil]
theorem sl_to {l : List Nat} {n : Nat} (h : l.length ≤ 1000) : slD (.str (tx l)) none (some (n : Int)) = some (.str (tx (l.take n))) := by
  show (if (tx l).length ≤ sizeLine then some (D.str (cutS (tx l) none (some (n : Int)))) else none) = _
  rw [if_pos (by rw [tx_len]; exact line1000 h), cut_to]
theorem sl_from {l : List Nat} {n : Nat} (h : l.length ≤ 1000) : slD (.str (tx l)) (some (n : Int)) none = some (.str (tx (l.drop n))) := by
  show (if (tx l).length ≤ sizeLine then some (D.str (cutS (tx l) (some (n : Int)) none)) else none) = _
  rw [if_pos (by rw [tx_len]; exact line1000 h), cut_from]
theorem add_tx {a b : List Nat} (h : a.length + b.length ≤ 1000) : addD (.str (tx a)) (.str (tx b)) = some (.str (tx (a ++ b))) := by
  show (if (tx a).length + (tx b).length ≤ sizeLine then some (D.str (tx a ++ tx b)) else none) = _
  rw [if_pos (by rw [tx_len, tx_len]; exact line1000 h), tx_app]
theorem len_tx {a : List Nat} (h : a.length ≤ 1000) : lenD (.str (tx a)) = some (.int a.length) := by
  show (if (tx a).length ≤ sizeLine then some (D.int (tx a).length) else none) = _
  rw [if_pos (by rw [tx_len]; exact line1000 h), tx_len]
theorem join_ones : ∀ ls : List Nat, Str.join (tx []) (ls.map fun c => tx [c]) = tx ls
  | [] => rfl
  | [c] => rfl
  | c :: d :: r => by
    show tx [c] ++ tx [] ++ Str.join (tx []) ((d :: r).map fun c => tx [c]) = _
    rw [join_ones (d :: r), tx_app, tx_app]
    rfl
theorem strs_ones : ∀ ls : List Nat, strsD (ls.map fun c => D.str (tx [c])) = some (ls.map fun c => tx [c])
  | [] => rfl
  | c :: r => by
    show (strsD (r.map fun c => D.str (tx [c]))).map _ = _
    rw [strs_ones r]
    rfl
theorem sum_ones : ∀ ls : List Nat, ((ls.map fun c => tx [c]).map (·.length)).sum = ls.length
  | [] => rfl
  | c :: r => by
    show 1 + ((r.map fun c => tx [c]).map (·.length)).sum = r.length + 1
    rw [sum_ones r, Nat.add_comm]
theorem joinD_ones {ls : List Nat} (h : ls.length ≤ 1000) : joinD (.str (tx [])) (.lst (ls.map fun c => D.str (tx [c]))) = some (.str (tx ls)) := by
  show (strsD (ls.map fun c => D.str (tx [c]))).bind _ = _
  rw [strs_ones]
  show (if _ then _ else _) = _
  rw [if_pos (by rw [sum_ones]; show ls.length + _ * 0 ≤ _; omega), TL.join_eq, join_ones]
/-! ## letters -/
def abcL : List Nat := abc.cps.toList
theorem abcL_len : abcL.length = 26 := by decide +kernel
theorem abcL_small : ∀ c ∈ abcL, c < 128 := by decide +kernel
theorem abcL_inj : ∀ i < 26, ∀ j < 26, abcL.getD i 0 = abcL.getD j 0 → i = j := by decide +kernel
theorem abc_at {k : Int} (h0 : 0 ≤ k) (h1 : k < 26) : ixD (.str abc) (.int k) = some (.str (tx [abcL.getD k.toNat 0])) ∧ abcL.getD k.toNat 0 ∈ abcL := by
  have hk : k.toNat < abcL.length := by rw [abcL_len]; omega
  have e := L2.atI_nat (xs := abcL) (j := k.toNat) (List.getElem?_eq_getElem hk)
  rw [Int.toNat_of_nonneg h0] at e
  have g : abcL.getD k.toNat 0 = abcL[k.toNat] := by
    rw [List.getD_eq_getElem?_getD, List.getElem?_eq_getElem hk]
    rfl
  refine ⟨?_, by rw [g]; exact List.getElem_mem hk⟩
  show (if abc.length ≤ sizeLine then (L2.atI abcL k).map fun c => D.str ⟨#[c]⟩ else none) = _
  rw [if_pos (by decide +kernel), e, g]
  rfl
/-! ## names of one base -/
def nameL (l : List Nat) (a : Nat) (f s : Int) (tail : Nat → List Nat) (k : Nat) : List Nat := l.take a ++ ([abcL.getD ((f + s * k) % 26).toNat 0] ++ tail k)
theorem nameL_at {l : List Nat} {a : Nat} {f s : Int} {tail : Nat → List Nat} {k : Nat} (h : a < l.length) : (nameL l a f s tail k)[a]? = some (abcL.getD ((f + s * k) % 26).toNat 0) := by
  have e : (l.take a).length = a := by rw [List.length_take]; omega
  unfold nameL
  rw [List.getElem?_append_right (by rw [e]; exact Nat.le_refl _), e, Nat.sub_self]
  rfl
theorem nodup_range_map {α : Type} {g : Nat → α} {n : Nat} (h : ∀ i < n, ∀ j < n, g i = g j → i = j) : ((List.range n).map g).Nodup := by
  rw [List.Nodup, List.pairwise_map]
  refine List.Pairwise.imp_of_mem (R := fun a b => a < b) ?_ List.pairwise_lt_range
  intro a b ha hb lt e
  have := h a (List.mem_range.mp ha) b (List.mem_range.mp hb) e
  omega
theorem names_nodup {l : List Nat} {a : Nat} {f s : Int} {tail : Nat → List Nat} {n : Nat} (h : a < l.length) (hs : s ∈ [(1 : Int), 3, 5, 7, 9, 11, 15, 17, 19, 21, 23, 25]) (hn : n ≤ 13) : ((List.range n).map (nameL l a f s tail)).Nodup := by
  refine nodup_range_map fun i hi j hj e => ?_
  have e1 := nameL_at (f := f) (s := s) (tail := tail) (k := i) h
  rw [e, nameL_at h] at e1
  have e2 := abcL_inj _ (by omega) _ (by omega) (Option.some.inj e1)
  have e3 : (f + s * (j : Int)) % 26 = (f + s * (i : Int)) % 26 := by omega
  simp only [List.mem_cons, List.not_mem_nil, or_false] at hs
  rcases hs with rfl | rfl | rfl | rfl | rfl | rfl | rfl | rfl | rfl | rfl | rfl | rfl <;> omega
theorem nodup_set {α : Type} {xs : List α} {y : α} (j : Nat) (h : xs.Nodup) (hy : y ∉ xs) : (xs.set j y).Nodup := by
  induction xs generalizing j with
  | nil => exact .nil
  | cons x xs ih =>
    have h' := List.nodup_cons.mp h
    have hy' : y ≠ x ∧ y ∉ xs := by simpa using hy
    cases j with
    | zero => exact List.nodup_cons.mpr ⟨hy'.2, h'.2⟩
    | succ j =>
      refine List.nodup_cons.mpr ⟨fun m => ?_, ih j h'.2 hy'.2⟩
      rcases List.mem_or_eq_of_mem_set m with z | z
      · exact h'.1 z
      · exact hy'.1 z.symm
/-- a name's signs -/
def nmOk (y : List Nat) : Prop := 1 ≤ y.length ∧ y.length ≤ 8 ∧ ∀ c ∈ y, 97 ≤ c ∧ c ≤ 122
theorem nmOk.sm {y : List Nat} (h : nmOk y) : y.length ≤ 20 ∧ ∀ c ∈ y, c < 128 := ⟨by have := h.2.1; omega, fun c hc => by have := h.2.2 c hc; omega⟩
theorem abcL_let : ∀ c ∈ abcL, 97 ≤ c ∧ c ≤ 122 := by decide +kernel
theorem abcL_of {c : Nat} (h : 97 ≤ c ∧ c ≤ 122) : c ∈ abcL := by
  have : ∀ d < 26, 97 + d ∈ abcL := by decide +kernel
  have e := this (c - 97) (by omega)
  rw [show 97 + (c - 97) = c by omega] at e
  exact e
/-- names, unlike -/
structure Nms (ys : List (List Nat)) : Prop where
  nd : ys.Nodup
  ok : ∀ y ∈ ys, nmOk y
theorem Nms.sm {ys : List (List Nat)} (h : Nms ys) : ∀ y ∈ ys, y.length ≤ 20 ∧ ∀ c ∈ y, c < 128 := fun y hy => (h.ok y hy).sm
def nmD (ys : List (List Nat)) : List D := ys.map fun y => .str (tx y)
end Tk

namespace Tk
open PySem PySem.Spec PyProof.Rows L2
/-! ## what == may be asked of -/
mutual
theorem wf_lay : ∀ {d : D}, d.wf = true → d.pn = true → d.py.canLay0 = true
  | .non, _, _ => rfl
  | .bl _, _, _ => rfl
  | .int _, _, _ => rfl
  | .str x, h, _ => (wf_str h).2
  | .lst xs, h, n => wf_layL (xs := xs) (wf_lst h).2 n
  | .tup xs, h, n => wf_layL (xs := xs) (wf_tup h).2 n
  | .dic _, _, n => nomatch n
  | .ob _, h, _ => nomatch h
  | .obj _ _ _, h, _ => nomatch h
  | .ext _ _, h, _ => nomatch h
  | .exc _ _ _, h, _ => nomatch h
theorem wf_layL : ∀ {xs : List D}, D.wfL xs = true → D.pnL xs = true → PyData.canLayAll0 (D.pyL xs) = true
  | [], _, _ => rfl
  | x :: xs, h, n => by
    have h' := Bool.and_eq_true_iff.mp (show (x.wf && D.wfL xs) = true from h)
    have n' := Bool.and_eq_true_iff.mp (show (x.pn && D.pnL xs) = true from n)
    exact Bool.and_eq_true_iff.mpr ⟨wf_lay h'.1 n'.1, wf_layL h'.2 n'.2⟩
end
theorem Sh.shp {B n k : Nat} {d : D} (h : Sh B n k d) (p : d.pn = true) (hk : k ≤ 64) : shp d = true := by
  unfold Tk.shp
  rw [p, Bool.true_and]
  unfold SeqAt.shaped
  rw [wf_lay h.wf p, Bool.true_and, decide_eq_true_eq]
  exact Nat.le_trans h.dp hk
theorem pnL_all : ∀ {xs : List D}, (∀ x ∈ xs, x.pn = true) → D.pnL xs = true
  | [], _ => rfl
  | x :: xs, h => Bool.and_eq_true_iff.mpr ⟨h x List.mem_cons_self, pnL_all fun y hy => h y (List.mem_cons_of_mem _ hy)⟩
theorem eqv_same {d : D} (h : shp d = true) : eqv d d = true := by
  unfold Tk.shp at h
  rw [Bool.and_eq_true] at h
  exact SeqAt.eqv_refl _ (SeqAt.canLay_of_shaped h.2)
theorem ne_same {d : D} (h : shp d = true) : neD d d = some (.bl false) := by
  unfold neD
  rw [if_pos (by rw [h, Bool.and_self, Bool.or_true]), eqv_same h]
  rfl
theorem shp_nil : shp (.lst []) = true := rfl
theorem eqv_nil : ∀ xs : List D, eqv (.lst xs) (.lst []) = xs.isEmpty
  | [] => by unfold eqv; simp [D.py, D.pyL, PyData.eqv, PyData.eqvAll]
  | x :: xs => by unfold eqv; simp [D.py, D.pyL, PyData.eqv, PyData.eqvAll]
theorem ne_nil {xs : List D} (h : shp (.lst xs) = true) : neD (.lst xs) (.lst []) = some (.bl (!xs.isEmpty)) := by
  unfold neD
  rw [if_pos (by rw [h, shp_nil]; rfl), eqv_nil]
theorem in_lst {neg : Bool} {x : D} {ys : List D} (h : flt x = true) (h2 : ys.all flt = true) : inD neg x (.lst ys) = some (.bl (if neg then !ys.any (fun y => eqv y x) else ys.any (fun y => eqv y x))) := by
  cases x <;> first | cases h | skip
  all_goals exact if_pos (by rw [h2]; rfl)
theorem cell_pn {d : D} (h : cellD d = true) : d.pn = true := by
  cases d <;> first | rfl | (simp [cellD, numD, wordD] at h)
theorem cells_shp {xs : List D} (h : ∀ x ∈ xs, cellD x = true) (hl : xs.length ≤ 1000) : shp (.lst xs) = true :=
  (Sh.lst (B := 45) (n := 100) (k := 0) (m := 1000) (n' := 101000) (k' := 1) (fun x hx => cell_sh (h x hx)) hl (by decide) (by decide) (by decide)).shp (pnL_all fun x hx => cell_pn (h x hx)) (by decide)
/-! ## two walks, told at once -/
section
variable {W : Wo} {f f1 : D → Rho → Option Rho} {tt tt1 : DB W} {te : DT W} {ti1 : DIt W} {vs1 : List Nat} {ρ : Rho}
theorem lcI_filter (p : D → Bool) (g : D → D) : ∀ (items acc : List D) {ω : W.Om} {Q : List D → W.Om → Prop},
    (∀ x ∈ items, ∃ ρ', f x ρ = some ρ' ∧ (∀ (ω : W.Om) (Q : Bool → W.Om → Prop), Q (p x) ω → tt ρ' ω Q) ∧ (p x = true → ∀ (ω : W.Om) (Q : D → W.Om → Prop), Q (g x) ω → te ρ' ω Q)) → acc.length + items.length ≤ sizeLine →
    Q (acc ++ (items.filter p).map g) ω → lcI f tt te ρ items acc ω Q
  | [], acc, ω, Q, _, _, q => by rw [List.filter_nil, List.map_nil, List.append_nil] at q; exact q
  | x :: xs, acc, ω, Q, h, hl, q => by
    obtain ⟨ρ', e, k1, k2⟩ := h x List.mem_cons_self
    rw [List.length_cons] at hl
    refine ⟨ρ', e, k1 _ _ ?_⟩
    cases c : p x with
    | false =>
      rw [if_neg Bool.false_ne_true]
      refine lcI_filter p g xs acc (fun y hy => h y (List.mem_cons_of_mem _ hy)) (by omega) ?_
      rw [List.filter_cons, c, if_neg Bool.false_ne_true] at q
      exact q
    | true =>
      rw [if_pos rfl]
      refine k2 c _ _ ⟨by omega, lcI_filter p g xs (acc ++ [g x]) (fun y hy => h y (List.mem_cons_of_mem _ hy)) (by rw [List.length_append, List.length_singleton]; omega) ?_⟩
      rw [List.filter_cons, c, if_pos rfl, List.map_cons] at q
      rw [List.append_assoc]
      exact q
theorem lcW2_flat (g : D → List D) (m : Nat) : ∀ (items acc : List D) {ω : W.Om} {Q : D → W.Om → Prop},
    (∀ x ∈ items, ∃ ρ', f x ρ = some ρ' ∧ noOwn ρ' = true ∧ (g x).length ≤ m ∧ ∀ (acc : List D) (ω : W.Om) (Q : List D → W.Om → Prop), acc.length + m ≤ sizeLine → Q (acc ++ g x) ω → ti1 ρ' ω fun items1 ω1 => lcI f1 tt1 te (wipeD ρ' vs1) items1 acc ω1 Q) →
    acc.length + items.length * m + m ≤ sizeLine → Q (.lst (acc ++ items.flatMap g)) ω → lcW2 f dYes ti1 vs1 f1 tt1 te ρ items acc ω Q
  | [], acc, ω, Q, _, _, q => by rw [List.flatMap_nil, List.append_nil] at q; exact q
  | x :: xs, acc, ω, Q, h, hl, q => by
    obtain ⟨ρ', e, no, lm, k⟩ := h x List.mem_cons_self
    rw [List.length_cons, Nat.add_mul, Nat.one_mul] at hl
    refine ⟨ρ', e, no, ?_⟩
    show (if true = true then (ti1 ρ' ω fun items1 ω1 => lcI f1 tt1 te (wipeD ρ' vs1) items1 acc ω1 fun acc' ω2 => lcW2 f dYes ti1 vs1 f1 tt1 te ρ xs acc' ω2 Q) else (lcW2 f dYes ti1 vs1 f1 tt1 te ρ xs acc ω Q))
    rw [if_pos rfl]
    refine k acc ω _ (by omega) (lcW2_flat g m xs (acc ++ g x) (fun y hy => h y (List.mem_cons_of_mem _ hy)) (by rw [List.length_append]; omega) ?_)
    rw [List.flatMap_cons] at q
    rw [List.append_assoc]
    exact q
end
end Tk

namespace Tk
open PySem PySem.Spec PyProof.Rows L2

/-! ## == by an own __eq__ -/
theorem back_of {Q : Value → Shared → Prop} {v : V} {u : Value} {s : Shared} (r : RelV v u) (h : Q u s) : PySem.W.CmpBack Q u s := by
  cases v with
  | non => cases r; exact h
  | bl b => cases r; exact h
  | int i => obtain ⟨t, rfl⟩ := r; exact h
  | str i => obtain ⟨t, rfl⟩ := r; exact h
  | byt i => obtain ⟨t, rfl⟩ := r; exact h
  | flt i => obtain ⟨t, rfl⟩ := r; exact h
  | ref i => cases r; exact h
  | ty i => cases r; exact h
section
variable {X : Cx} {CX : CXT} {k : Nat} {f C : Addr} {fd : FuncData} {ps : List Str} {sp : Sp} {E : XK}
/-- x == y, x an object of the class at C -/
def rEqJ (K : PySem.W.Frag) (C : Addr) (sp : Sp) (E : XK) : R2 := fun x y H Q => ∃ a dx fs t, x = .ref a ∧ H a = some (.ins C dx fs) ∧ TyX K H y t ∧ PySem.W.notFirst K C t = true ∧ sp [x, y] H Q E
theorem op_eqJ (c : Cls X.K C) (hm : Meth X.K C "__eq__" f) (F : FnG X.prog X.w X.K X.mg X.base CX k f fd ps sp) (g : Gd X.A) (hu : X.A.units < cLine) (hr : Room k X.A) (hb : Binds X.K fd ps []) (hx : Passes CX X E) :
    OpR X (compareOp .Eq) (rEqJ X.K C sp E) := by
  intro pins s σ H x y v u Q I rx ry hq
  obtain ⟨a, dx, fs, t, rfl, ha, ty, hn, q⟩ := hq
  cases rx
  obtain ⟨mA, J, _⟩ := ins_get I.hok ha
  obtain ⟨od, J, _⟩ := J.look
  obtain ⟨P, Z, p, _⟩ := kit_of I ry ty
  obtain ⟨m, hF⟩ := I.fr
  show wpAny (model X.prog X.w) X.A (richCompare .Eq (.ref a) u) (EP X pins σ Q) X.xe s
  refine PySem.W.cmp_K (op := .Eq) hu hF I.ok.mod.kin J (Z.ty _ _ I.kIn p) hn hm.at_ hm.fn ?_
  refine wpAny_mono (goFn (ds := []) (dvs := []) (us := [.ref a, u]) (vs := [.ref a, y]) F g hr hb .nil hx I (.cons rfl (.cons ry .nil)) q) (fun z s' hz => ?_) fun _ _ x => x
  obtain ⟨v', H', I', r', q'⟩ := hz
  exact back_of r' ⟨v', H', I', r', q'⟩
end
section
variable {R S : RQ} {X : Cx} {W : Wo} {a b : Expr} {pos : Pos} {ta tb : DT W} {C : Addr}
/-- the class of a value that is compared with an object of the class at C -/
def tyC (C : Addr) : D → Option Value
  | .obj C' _ _ => if C' = C then some (.ref C) else none
  | .ob _ => none
  | .ext _ _ => none
  | .exc _ _ _ => none
  | d => some (.type (tyn d))
structure IsC (K : PySem.W.Frag) (C : Addr) : Prop where
  ha : PySem.W.findIn K (.ref C) "__class__" = some (some (.builtin "object.__class__"))
  hn : PySem.W.specialIn K (.builtin "object.__class__") "__get__" = some (some (.builtin "getset_descriptor.__get__"))
  ht : PySem.W.takesIn K (.builtin "object.__class__") = some true
  hm : PySem.W.mroIn K C (.type "object") = some true
theorem tyC_ok {K : PySem.W.Frag} {H : Hp} {Ex : Addr → Prop} {v : V} {d : D} {t : Value} (c : Cls K C) (ic : IsC K C) (h : Bq W H Ex v d) (e : tyC C d = some t) : TyX K H v t := by
  cases d with
  | ob a => cases e
  | ext _ _ => cases e
  | exc _ _ _ => cases e
  | obj C' ns ds =>
    simp only [tyC] at e
    split at e
    · rename_i q
      cases e; subst q
      obtain ⟨p, dx, vs, rfl, h1, _⟩ := h.ofJ
      exact .base (.ins h1 c ic.ha ic.hn ic.ht ic.hm)
    · cases e
  | non => cases e; rw [h.ofN]; exact .base .non
  | bl x => cases e; rw [h.ofB]; exact .base (.bl x)
  | int x => cases e; rw [h.ofI]; exact .base (.int x)
  | str x => cases e; rw [h.ofS]; exact .base (.str x)
  | lst xs =>
    cases e
    obtain ⟨p, vs, rfl, h1, _⟩ := h.ofL
    exact .base (.lst h1)
  | tup xs =>
    cases e
    obtain ⟨p, vs, rfl, h1, _⟩ := h.ofT
    obtain ⟨o, h1, _⟩ := h1
    exact .fTuple h1
  | dic xs =>
    cases e
    obtain ⟨p, vs, rfl, h1, _⟩ := h.ofK
    exact .base (.dK h1)
def bts : List String := ["NoneType", "bool", "int", "str", "list", "tuple", "dict"]
/-- the class at C is no base of the built-in ones -/
def NotB (K : PySem.W.Frag) (C : Addr) : Prop := bts.all (fun T => PySem.W.notFirst K C (.type T)) = true
theorem tyC_nf {K : PySem.W.Frag} {d : D} {t : Value} (h : NotB K C) (e : tyC C d = some t) : PySem.W.notFirst K C t = true := by
  have go : ∀ T ∈ bts, PySem.W.notFirst K C (.type T) = true := fun T m => List.all_eq_true.mp h T m
  cases d with
  | ob a => cases e
  | ext _ _ => cases e
  | exc _ _ _ => cases e
  | obj C' ns ds =>
    simp only [tyC] at e
    split at e
    · cases e; simp [PySem.W.notFirst]
    · cases e
  | non => cases e; exact go "NoneType" (by decide)
  | bl b => cases e; exact go "bool" (by decide)
  | int i => cases e; exact go "int" (by decide)
  | str x => cases e; exact go "str" (by decide)
  | lst xs => cases e; exact go "list" (by decide)
  | tup xs => cases e; exact go "tuple" (by decide)
  | dic xs => cases e; exact go "dict" (by decide)
def dEqJ {W : Wo} (C : Addr) (S : Spd W) (ta tb : DT W) : DT W := fun ρ ω Q => ta ρ ω fun x ω1 => tb ρ ω1 fun y ω2 => (∃ ns ds, x = .obj C ns ds) ∧ (tyC C y).isSome = true ∧ S [x, y] ω2 Q
theorem de_eqJ {k : Nat} {f : Addr} {fd : FuncData} {ps : List Str} {S : Spd W} (F : FnG X.prog X.w X.K X.mg X.base CX0 k f fd ps (spOf W S)) (g : Gd X.A) (hu : X.A.units + 64 < cLine) (hr : Room k X.A)
    (c : Cls X.K C) (ic : IsC X.K C) (nb : NotB X.K C) (hm : Meth X.K C "__eq__" f) (hb : Binds X.K fd ps []) (ha : DE X W a ta) (hb' : DE X W b tb) (hmk : behindInMarks .Eq b = false) : DE X W (.Compare a [.Eq] [b] pos) (dEqJ C S ta tb) :=
  DX.of (pe_cmpR (op_eqJ c hm F g (by omega) hr hb pass0) ha.pe hb'.pe hmk) fun B Ex ρ ω σ H Q rep q => two (R := Cl) (S := Cl) rep q fun x y dx dy H2 ω2 k rp zx zy ⟨⟨ns, ds, e⟩, e2, q2⟩ => by
    obtain ⟨t, e2⟩ := Option.isSome_iff_exists.mp e2
    subst e
    obtain ⟨p, px, vs, rfl, h1, h2, h3, h4⟩ := (Bq.of (W := W) zx).ofJ
    exact ⟨p, px, _, t, rfl, h1, tyC_ok c ic (Bq.of (W := W) zy) e2, tyC_nf nb e2, Ex, ω2, _, Q, rp.wo, fun _ m => rp.muEx m, rp.tr, .cons zx (.cons zy .nil), q2, fun d ω3 v H3 q3 k3 w3 z3 => ⟨d, ω3, k.trans k3, w3, z3, q3⟩⟩
end
end Tk

namespace Tk
open PySem PySem.Spec PyProof.Rows L2

/-! ## str(x), int(x), x.split(y) -/
def strI (i : Int) : Str := Str.ofString (toString i)
def strD : D → Option D
  | .int i => if i.natAbs.log2 < 1920 then some (.str (strI i)) else none
  | .str x => some (.str x)
  | _ => none
def intD : D → Option D
  | .int i => some (.int i)
  | .bl k => some (.int (if k then 1 else 0))
  | .str x => if x.length ≤ 640 then (PySem.intText? x).map D.int else none
  | _ => none
def splitD : D → D → Option D
  | .str a, .str b => if (b.length == 0) = false ∧ a.length + 2 ≤ sizeLine then some (.lst ((Txt.split a b).map D.str)) else none
  | _, _ => none
theorem dqL_strs {H : Hp} {Ex : Addr → Prop} : ∀ ys : List Str, DqL H Ex (ys.map V.str) (ys.map D.str)
  | [] => .nil
  | y :: ys => .cons (.str y) (dqL_strs ys)
section
variable {X : Cx} {W : Wo}
theorem f_str : F1 X W (.type "str") strD := by
  refine ⟨_, call_str_int.or SkE.call_str_str, ?_⟩
  intro H Ex v d z Q tr h e k
  unfold strD at e
  split at e
  · split at e
    · rename_i i hi
      cases e
      have ev := h.ofI
      subst ev
      exact .inl ⟨_, rfl, hi, k _ _ (Same.refl H) (.str _)⟩
    · cases e
  · cases e
    have ev := h.ofS
    subst ev
    exact .inr ⟨_, rfl, k _ _ (Same.refl H) (.str _)⟩
  · cases e
theorem f_int : F1 X W (.type "int") intD := by
  refine ⟨_, call_int1.or call_int_str, ?_⟩
  intro H Ex v d z Q tr h e k
  unfold intD at e
  split at e
  · cases e
    have ev := h.ofI
    subst ev
    exact .inl (.inl ⟨_, rfl, k _ _ (Same.refl H) (.int _)⟩)
  · cases e
    have ev := h.ofB
    subst ev
    exact .inl (.inr ⟨_, rfl, k _ _ (Same.refl H) (.int _)⟩)
  · split at e
    · rename_i x hx
      have ev := h.ofS
      subst ev
      cases q : PySem.intText? x with
      | none => rw [q] at e; cases e
      | some n =>
        rw [q] at e
        cases e
        exact .inr ⟨x, n, rfl, q, hx, k _ _ (Same.refl H) (.int _)⟩
    · cases e
  · cases e
theorem m_split : M2 X W "str" "str.split" splitD := by
  refine ⟨_, mt_split, fun {H Ex x dx} hx w0 => ?_⟩
  obtain ⟨dy0, z0, e0⟩ := w0
  have hs : ∃ a, dx = .str a := by
    cases dx <;> first | exact ⟨_, rfl⟩ | (simp [splitD] at e0)
  obtain ⟨a, rfl⟩ := hs
  have ex := hx.ofS
  subst ex
  refine ⟨rfl, fun {y dy z Q H'} tr hx' hy e k => ?_⟩
  unfold splitD at e
  split at e
  · rename_i a' b ea
    cases ea
    split at e
    · rename_i hb
      cases e
      have ey := hy.ofS
      subst ey
      exact ⟨_, _, rfl, rfl, hb.1, hb.2, fun p n => k _ _ (same_upd n) (.lst upd_same (fun m => tr p m n) (dqL_strs _))⟩
    · cases e
  · cases e
theorem de_split {R S : RQ} [Stab R] [Stab S] {o e : Expr} {apos cpos : Pos} {to te : DT W} (ho : DX R X W o to) (he : DX S X W e te)
    (hbase : attributeBase o "split" X.env (eval o X.env) = eval o X.env := by rfl)
    (hfew : ((backTo cpos (starEach [e] X.env)).all (fun x => !x.1) && (backToKw cpos (keywordEach [] X.env)).all (fun x => x.1.isSome) && decide (([e]).length + ([] : List Keyword).length + (if ([] : List Keyword).isEmpty then 0 else 1) < 30)) = true := by rfl)
    (hline : (apos.endLine == cpos.line) = true := by rfl) (hs : starEach [e] X.env = (false, eval e X.env) :: starEach [] X.env := by rfl) (hplain : (backTo cpos (starEach [] X.env)).any (·.1) = false := by rfl) :
    DE X W (.Call (.Attribute o "split" apos) [e] [] cpos) (dM2 splitD to te) := de_m2 PySem.F.plainAttrs_str PySem.F.slot_str_split PySem.F.type_str_split m_split ho he hbase hfew hline hs hplain
end
end Tk

namespace Tk
open PySem PySem.Spec PyProof.Rows L2 PpSet

/-! ## {e for x in xs if t}: any kind of set -/
/-- the new empty set, as the machine lays it -/
abbrev set0 (w : World) : Obj := { cls := .type "set", dict := none, data := .set #[] 0 (.fresh 0 0 (!w.params.followText "set-order")) }
/-- sets told by m: what stands at the set's place, the empty one, what may be put to it -/
structure Sgs (P : Program) (w : World) (ι : Type) where
  at_ : Addr → ι → HO
  nil : ι
  put : Hp → ι → V → ι → Prop
  new : ∀ (H : Hp) (h : Heap), ObjOk P w (upd H h.objs.size (at_ h.objs.size nil)) (h.push (set0 w)) h.objs.size (at_ h.objs.size nil)
  add : ∀ {X : Cx} {pins : List (Addr × Obj)} {σ : List (Option V)} {H : Hp} {s : Shared} {D : Addr} {m m' : ι} {y : V} {u : Value} {E : Value → Shared → Prop} {Q : Value → Shared → Prop}, X.prog = P → X.w = w → X.A.units + 64 < cLine → Inv X pins σ H s →
    H D = some (at_ D m) → RelV y u → put H m y m' → (∀ s', Inv X pins σ (upd H D (at_ D m')) s' → Q .none s') → wpAny (model X.prog X.w) X.A (call (.builtin "set.add") [.ref D, u]) Q E s
def tSg {P : Program} {w : World} {ι : Type} (M : Sgs P w ι) (wi : TI) (g : TG) (tt : TT) (te : TE) (vs : List Nat) : TE := fun σ H Q => wi σ H fun J H1 => ∀ D, H1 D = none →
  ∃ Wv : Nat → Nat → Hp → Prop, (∃ m, Wv 0 m (upd H1 D (M.at_ D M.nil))) ∧ ∀ i m H, Wv i m H →
    (J.stop i H ∧ Q (.ref D) H) ∨ (J.go i H ∧ ∃ Nx : Hp → Prop, (∀ H', Nx H' → ∃ m', m' < m ∧ Wv (i + 1) m' H') ∧ ∀ x H', J.yld i H x H' →
      g x (L2.wipe σ vs) H' fun σ2 H2 => L2.wipe σ2 vs = L2.wipe σ vs ∧ tt σ2 H2 fun b H3 =>
        if b = true then te σ2 H3 fun y H4 => ∃ c c', H4 D = some (M.at_ D c) ∧ M.put H4 c y c' ∧ Nx (upd H4 D (M.at_ D c')) else Nx H3)
section
variable {X : Cx}
/-- what the set comprehension's own frame leaves -/
theorem sg_go {ι : Type} (M : Sgs X.prog X.w ι) {pins : List (Addr × Obj)} {s : Shared} {σ : List (Option V)} {H : Hp} {Q : VK} {elt tg iter : Expr} {ifs : List Expr} {scope : Scope} {own : List (PySem.Str × Nat)} {pos pos' : Pos} {wi : TI} {g : TG} {tt : TT} {te : TE}
    {use : Option (Value → Sem Unit)} {Qf : Value → Shared → Prop} (hu : X.A.units + 64 < cLine)
    (calm : X.calm = true) (nd : X.N.Nodup) (I : Inv X pins σ H s) (walk : PI X tg iter wi) (blk : BlkOk X.N X.env.scope scope own)
    (pgs : ∀ (s : Shared) (H : Hp) (C : Addr) (cl : List (PySem.Str × Addr)) (fp : List Addr), PG (X.blk s H scope (compEnvC scope cl C X.env) fp) tg g)
    (pts : ∀ (s : Shared) (H : Hp) (C : Addr) (cl : List (PySem.Str × Addr)) (fp : List Addr), PTs (X.blk s H scope (compEnvC scope cl C X.env) fp) ifs tt)
    (pes : ∀ (s : Shared) (H : Hp) (C : Addr) (cl : List (PySem.Str × Addr)) (fp : List Addr), PE (X.blk s H scope (compEnvC scope cl C X.env) fp) elt te)
    (plain : ∀ x, foldedSetIterable iter X.env x = pure x) (h : tSg M wi g tt te (own.map (·.2)) σ H Q)
    (fin : ∀ D C s' m H', Inv X pins σ H' s' → Q (.ref D) H' → s'.heap.Ns C m → FpOk X pins H' C → compPost (model X.prog X.w) X.A X.xe use Qf (.ref D) C (.ok .next) s') :
    wpAny (model X.prog X.w) X.A (comprehension (.SetComp elt [⟨tg, iter, ifs, 0⟩] scope pos) scope X.env pos' (newSet (.type "set")) false (eval iter X.env) use) Qf X.xe s := by
  have frees : ∀ y ∈ scope.names, y.2 = .free → ∃ c, X.env.cells.lookup y.1 = some c := by
    intro y hy e
    exact (blk.free y hy e).elim (fun k => I.ok.has _ (.inl k)) fun k => I.ok.has _ (.inr k)
  refine wpAny_comprehension_free (use := use) rfl plain (closure_ok frees) blk.kind (fun y hy e => by rw [blk.uniq y hy, e]) ?_
  refine thn (walk.run pins s σ H _ I h) fun xv s1 hx => ?_
  refine thn hx fun itv s2 got => ?_
  obtain ⟨it, fp, tn, J, H2, rfl, I2, T, st2, f2, body⟩ := got
  refine newSet_ok (newEnv_comp ?_)
  -- the new set stands at the heap's end
  obtain ⟨D, eD⟩ : ∃ D, s2.heap.objs.size = D := ⟨_, rfl⟩
  have freeD : H2 D = none := I2.hok.fresh (Nat.le_of_eq eD)
  obtain ⟨Wv, ⟨m0, at0⟩, turn⟩ := body D freeD
  obtain ⟨s3, es3⟩ : ∃ s3 : Shared, { s2 with heap := s2.heap.push (set0 X.w) } = s3 := ⟨_, rfl⟩
  have heap3 : s3.heap = s2.heap.push (set0 X.w) := by rw [← es3]
  obtain ⟨H3, eH3⟩ : ∃ H3, upd H2 D (M.at_ D M.nil) = H3 := ⟨_, rfl⟩
  have I3 : Inv X pins σ H3 s3 := by
    rw [← es3, ← eH3]
    have ok := M.new H2 s2.heap
    rw [eD] at ok
    exact I2.laid (t' := s2.toks) (fun b o e => Heap.get?_push_of_some _ e) (Nat.le_of_eq eD) ok
  have below : ∀ b ∈ fp, b < s2.heap.objs.size := by
    intro b hb
    obtain ⟨o, e, _⟩ := T.obj _ _ st2 b hb
    exact Heap.lt_size e
  have f3 : ∀ b ∈ fp, FpOk X pins H3 b ∧ b < s3.heap.objs.size := by
    intro b hb
    have lt := below b hb
    have ne : b ≠ D := fun z => Nat.lt_irrefl _ (by rw [← eD] at z; rw [z] at lt; exact lt)
    refine ⟨⟨by rw [← eH3, upd_ne ne]; exact (f2 b hb).1, (f2 b hb).2⟩, ?_⟩
    rw [heap3, Heap.size_push]
    exact Nat.lt_succ_of_lt lt
  have st3 : tn 0 s3.heap := T.keep _ _ _ st2 fun b _ o e => by
    rw [heap3]
    exact Heap.get?_push_of_some _ e
  have I4 := block_start I3 blk nd f3
  generalize eC : s3.heap.objs.size = C at I4
  generalize ecl : cellsFrom (C + 1) scope.names (cloFrom X.env.cells scope.names []) = cl at I4
  have gT := pgs s3 H3 C cl fp
  have tT := pts s3 H3 C cl fp
  have eT := pes s3 H3 C cl fp
  have goal : codeAny (model X.prog X.w) X.A (.compStart (.SetComp elt [⟨tg, iter, ifs, 0⟩] scope pos) 0 (.ref it) (.ref D) (compEnvC scope cl C X.env)) (compPost (model X.prog X.w) X.A X.xe use Qf (.ref D) C) { s3 with heap := pushCells (s3.heap.push { cls := .type "dict", data := .dict #[] }) scope.names } := by
    have eL : (compEnvC scope cl C X.env).locals = C := rfl
    generalize compEnvC scope cl C X.env = ev at I4 gT tT eT eL ⊢
    obtain ⟨s4, es4⟩ : ∃ s4 : Shared, { s3 with heap := pushCells (s3.heap.push { cls := .type "dict", data := .dict #[] }) scope.names } = s4 := ⟨_, rfl⟩
    rw [es4] at I4 ⊢
    have st4 : tn 0 s4.heap := T.keep _ _ _ st3 fun b _ o e => by
      rw [← es4]
      exact pushCells_keeps _ _ _ _ (Heap.get?_push_of_some _ e)
    -- the iterator's own objects, seen from the block
    have seen : ∀ {σ' : List (Option V)} {H' : Hp} {s' : Shared}, Inv (X.blk s3 H3 scope ev fp) [] σ' H' s' → (∀ b ∈ fp, H' b = none) → ∀ b ∈ fp, FpOk (X.blk s3 H3 scope ev fp) [] H' b := by
      intro σ' H' s' I' nn b hb
      refine ⟨nn b hb, (I'.ok.exf b hb).1, I'.ok.exfs b hb, .inl hb, fun x c e => (I'.ok.exf b hb).2 x c e, fun p hp => ?_⟩
      exact absurd (show p ∈ ([] : List (Addr × Obj)) ++ [] from hp) (by simp)
    have walkAll : codeAny (model X.prog X.w) X.A (.compLoop (.SetComp elt [⟨tg, iter, ifs, 0⟩] scope pos) 0 (.ref it) (.ref D) ev) (compPost (model X.prog X.w) X.A X.xe use Qf (.ref D) C) s4 := by
      refine compLoopS_any (fun n s' => ∃ i H', Inv (X.blk s3 H3 scope ev fp) [] (L2.wipe σ (own.map (·.2))) H' s' ∧ tn i s'.heap ∧ (∀ b ∈ fp, H' b = none) ∧ Wv i n H') ?_ m0 ⟨0, H3, I4, st4, fun b hb => (f3 b hb).1.1, by rw [← eH3]; exact at0⟩
      intro n s5 cur
      obtain ⟨i, H5, I5, st5, n5, w5⟩ := cur
      have look := turn i n H5 w5
      cases look with
      | inl over =>
        obtain ⟨stop, qq⟩ := over
        refine thnF (T.done (X.blk s3 H3 scope ev fp) rfl rfl rfl calm i [] s5 _ H5 (fun _ _ => False) I5 (seen I5 n5) st5 stop) fun r s6 z => ?_
        obtain ⟨er, I6⟩ := z
        rw [er]
        have gone : H5 C = none := by
          rw [← eL]
          exact I6.free
        obtain ⟨m, hn, _⟩ := I6.loc
        have hn' : s6.heap.Ns ev.locals m := hn
        rw [eL] at hn'
        have back : Inv X pins σ H5 s6 := I3.call' (ch := fp) I6.os I6.base I6.hok I6.bare fun b hb => by
          have z := (f3 b hb).1.2
          exact ⟨z.2.2.1, z.1, z.2.2.2.1, z.2.2.2.2⟩
        exact fin D C s6 m H5 back qq hn' (I3.fpOk (Nat.le_of_eq eC) gone)
      | inr more =>
        obtain ⟨go, Nx, nxt, step⟩ := more
        refine thnF (T.item (X.blk s3 H3 scope ev fp) rfl rfl rfl calm i [] s5 _ H5 (fun _ _ => False) I5 (seen I5 n5) st5 go) fun r s6 z => ?_
        obtain ⟨u, er, h6⟩ := z
        rw [er]
        refine thnF h6 fun _ s7 z => ?_
        obtain ⟨x, H7, I7, r7, y7, st7, n7⟩ := z
        refine thnF (gT.run _ s7 _ H7 x u _ (I7.pinned (seen I7 n7) (T.obj _ _ st7)) r7 (step x H7 y7)) fun _ s8 z => ?_
        obtain ⟨σ8, H8, I8, keep8, q8⟩ := z
        refine thnF (tT.run _ s8 σ8 H8 _ I8 q8) fun b s9 z => ?_
        obtain ⟨H9, I9, q9⟩ := z
        have turned : ∀ {s' : Shared} {H' : Hp}, Inv (X.blk s3 H3 scope ev fp) ([] ++ pinsAt fp s7.heap) σ8 H' s' → Nx H' →
            ∃ m, m < n ∧ ∃ i H', Inv (X.blk s3 H3 scope ev fp) [] (L2.wipe σ (own.map (·.2))) H' s' ∧ tn i s'.heap ∧ (∀ b ∈ fp, H' b = none) ∧ Wv i m H' := by
          intro s' H' I' nx
          obtain ⟨m', lt, w'⟩ := nxt H' nx
          have pinned : ∀ b ∈ fp, ∀ o, s7.heap.get? b = some o → s'.heap.get? b = some o ∧ H' b = none := by
            intro b hb o e
            have z := I'.pin (b, o) (List.mem_append_right _ (List.mem_append_right _ (mem_pinsAt hb e)))
            exact ⟨z.1, z.2.1⟩
          have len8 : (L2.wipe σ (own.map (·.2))).length = σ8.length := by rw [← keep8, wipe_length]
          refine ⟨m', lt, i + 1, H', (I'.unpinned (pins := [])).weak len8 (fun j v e => ?_), T.keep _ _ _ st7 fun b hb o e => (pinned b hb o e).1, ?_, w'⟩
          · rw [← keep8] at e
            exact (wipe_some e).1
          · intro b hb
            obtain ⟨o, e, _⟩ := T.obj _ _ st7 b hb
            exact (pinned b hb o e).2
        cases b with
        | false => exact turned I9 (by simpa using q9)
        | true =>
          rw [if_pos rfl] at q9 ⊢
          refine thnF (eT.run _ s9 σ8 H9 _ I9 q9) fun z s10 got10 => ?_
          obtain ⟨yv, H10, I10, r10, c, c', at10, put10, nx⟩ := got10
          exact M.add (X := X.blk s3 H3 scope ev fp) rfl rfl hu I10 at10 r10 put10 fun s11 I11 => turned I11 nx
    exact codeAny_compStart_set walkAll (T.self X.A 0 _ _ _ st4 walkAll)
  rw [← eC, ← ecl, ← eC, ← es3, ← eD] at goal
  exact goal
end
/-! ## sets of plain things: None, ints, texts -/
def scV : V → Option (Option Key)
  | .non => some none
  | .int i => some (some (.inl i))
  | .str x => some (some (.inr x))
  | _ => none
def hasK (ks : List (Option Key)) (k : Option Key) : Bool := ks.any fun j => decide (j = k)
theorem hasK_iff {ks : List (Option Key)} {k : Option Key} : hasK ks k = true ↔ k ∈ ks := by
  unfold hasK
  rw [List.any_eq_true]
  exact ⟨fun ⟨j, h, e⟩ => by rw [← of_decide_eq_true e]; exact h, fun h => ⟨k, h, decide_eq_true rfl⟩⟩
def addK (ks : List (Option Key)) (k : Option Key) : List (Option Key) := if hasK ks k = true then ks else ks ++ [k]
theorem addK_nd {ks : List (Option Key)} {k : Option Key} (h : ks.Nodup) : (addK ks k).Nodup := by
  unfold addK
  split
  · exact h
  · rename_i n
    exact List.nodup_append.mpr ⟨h, by simp, fun a ha b hb => by rw [List.mem_singleton.mp hb]; rintro rfl; exact n (hasK_iff.mpr ha)⟩
theorem addK_mem {ks : List (Option Key)} {k j : Option Key} : j ∈ addK ks k ↔ j ∈ ks ∨ j = k := by
  unfold addK
  split
  · rename_i h
    exact ⟨.inl, fun z => z.elim id fun e => by rw [e]; exact hasK_iff.mp h⟩
  · simp
theorem addK_has {ks : List (Option Key)} {k j : Option Key} : hasK (addK ks k) j = (hasK ks j || decide (j = k)) := by
  rw [Bool.eq_iff_iff, hasK_iff, addK_mem, Bool.or_eq_true, hasK_iff, decide_eq_true_iff]
theorem addK_len {ks : List (Option Key)} {k : Option Key} : (addK ks k).length = if hasK ks k = true then ks.length else ks.length + 1 := by
  unfold addK
  split <;> simp
/-- at a stands a set of just the things ks -/
def KsAt (P : Program) (w : World) (a : Addr) (ks : List (Option Key)) (h : Heap) : Prop := ks.Nodup ∧ ∃ S, h.SetOf (noneKind P w) a S ks.length ∧ ∀ k, S k = hasK ks k
theorem ksAt_ok {P : Program} {w : World} {H : Hp} {h : Heap} {a : Addr} {ks : List (Option Key)} (R : KsAt P w a ks h) : ObjOk P w H h a (.ext (KsAt P w a ks)) := by
  refine ⟨R, ?_, fun h1 h2 p k => ?_⟩
  · obtain ⟨_, S, ⟨o, _, _, _, ho, _⟩, _⟩ := R
    exact ⟨o, ho⟩
  · obtain ⟨nd, S, ⟨o, es, ep, t, ho, r⟩, e⟩ := p
    exact ⟨nd, S, ⟨o, es, ep, t, k o ho, r⟩, e⟩
theorem scV_is {P : Program} {w : World} {y : V} {u : Value} {k : Option Key} (r : RelV y u) (e : scV y = some k) : (noneKind P w).is k u = true ∧ u.scannable = true := by
  cases y with
  | non => cases e; cases r; exact ⟨rfl, rfl⟩
  | int i => cases e; obtain ⟨t, rfl⟩ := r; exact ⟨keyIs_int i t, rfl⟩
  | str x => cases e; obtain ⟨t, rfl⟩ := r; exact ⟨keyIs_str x t, rfl⟩
  | _ => cases e
def ksSgs (P : Program) (w : World) : Sgs P w (List (Option Key)) where
  at_ := fun a ks => .ext (KsAt P w a ks)
  nil := []
  put := fun _ ks y ks' => ∃ k, scV y = some k ∧ ks.length + 1 < scanBound ∧ ks' = addK ks k
  new := fun H h => ksAt_ok ⟨List.nodup_nil, fun _ => false, ⟨_, #[], 0, _, Heap.get?_push_size _ rfl, ⟨rfl, rfl, rfl⟩, rfl, (fun e he => by simp at he), (fun k => by simp), (by decide), (by rfl), rfl⟩, fun k => rfl⟩
  add := by
    intro X pins σ H s D m m' y u E Q hP hw hu I hD r hp q
    subst hP hw
    obtain ⟨k, ek, lt, rfl⟩ := hp
    obtain ⟨is, sc⟩ := scV_is (P := X.prog) (w := X.w) r ek
    obtain ⟨⟨nd, S, R, eS⟩, _⟩ := I.hok D _ hD
    refine call_set_add is sc R lt fun h' sb new => ?_
    have there : ∃ o, h'.get? D = some o := by
      obtain ⟨o, _, _, _, ho, _⟩ := new
      exact ⟨o, ho⟩
    have R' : KsAt X.prog X.w D (addK m k) h' := by
      refine ⟨addK_nd nd, fun k' => S k' || decide (k' = k), ?_, fun j => ?_⟩
      · have : (addK m k).length = if S k = true then m.length else m.length + 1 := by rw [addK_len, eS]
        rw [this]
        exact new
      · show (S j || decide (j = k)) = _
        rw [eS, addK_has]
    exact q _ (I.write (e := D) (t' := s.toks + 1) (by rw [hD]; trivial) (.inl rfl) (fun b o hb ho => (sb.2 b hb).trans ho) there (ksAt_ok R'))
/-- a set as data -/
abbrev ksD (P : Program) (w : World) (ks : List (Option Key)) : D := .ext (fun a _ h => KsAt P w a ks h) []
def scK : D → Option (Option Key)
  | .non => some none
  | .int i => some (some (.inl i))
  | .str x => some (some (.inr x))
  | _ => none
theorem scK_ok {H : Hp} {Ex : Addr → Prop} {v : V} {d : D} {k : Option Key} (h : Dq H Ex v d) (e : scK d = some k) : scV v = some k := by
  cases d with
  | non => cases e; cases h; rfl
  | int i => cases e; cases h; rfl
  | str x => cases e; cases h; rfl
  | _ => cases e
def scW {W : Wo} (f : D → Rho → Option Rho) (tt : DB W) (te : DT W) (ρ : Rho) : List D → List (Option Key) → W.Om → (List (Option Key) → W.Om → Prop) → Prop
  | [], ks, ω, Q => Q ks ω
  | x :: xs, ks, ω, Q => ∃ ρ', f x ρ = some ρ' ∧ tt ρ' ω fun b ω' => if b = true then te ρ' ω' fun d ω2 => ∃ k, scK d = some k ∧ ks.length + 1 < scanBound ∧ scW f tt te ρ xs (addK ks k) ω2 Q else scW f tt te ρ xs ks ω' Q
def dSc {W : Wo} (P : Program) (w : World) (ti : DIt W) (vs : List Nat) (f : D → Rho → Option Rho) (tt : DB W) (te : DT W) : DT W := fun ρ ω Q => ti ρ ω fun items ω1 => scW f tt te (wipeD ρ vs) items [] ω1 fun ks ω2 => Q (ksD P w ks) ω2
theorem sc_walk {P : Program} {w : World} {W : Wo} {B : Bs} {Ex : Addr → Prop} {σ : List (Option V)} {ρ : Rho} {H H1 : Hp} {ω ω1 : W.Om} {vs : List Nat} {g : TG} {f : D → Rho → Option Rho} {tt : TT} {te : TE} {ttD : DB W} {teD : DT W} {J : It} {S : Addr → Prop} {items : List D} {Q : List (Option Key) → W.Om → Prop} {D : Addr} {Qd : Hp → Prop}
    (rep : Rep W B Ex H σ ρ ω) (k1 : Kp W H H1) (w1 : W.at Ex ω1 H1) (hm : ∀ b, S b → ¬ W.Mu b) (wk : Wk J Ex items S H1) (hD : H1 D = none) (G : Gf g vs f) (ht : RunT W tt ttD)
    (he : ∀ (B : Bs) (Ex : Addr → Prop) (ρ : Rho) (ω : W.Om) (σ : List (Option V)) (H : Hp) (Q : Tk.D → W.Om → Prop) (Q' : V → Hp → Prop), Rep W B Ex H σ ρ ω → teD ρ ω Q → (∀ d ω' v H', Q d ω' → Kp W H H' → W.at Ex ω' H' → Dq H' Ex v d → Q' v H') → te σ H Q')
    (q : scW f ttD teD (wipeD ρ vs) items [] ω1 Q)
    (done : ∀ (ks : List (Option Key)) (ω' : W.Om) (H' : Hp), Q ks ω' → Kp W H H' → W.at (fun b => Ex b ∨ b = D) ω' H' → H' D = some (.ext (KsAt P w D ks)) → Qd H') :
    ∃ Wv : Nat → Nat → Hp → Prop, (∃ m, Wv 0 m (upd H1 D ((ksSgs P w).at_ D (ksSgs P w).nil))) ∧ ∀ i m H, Wv i m H →
      (J.stop i H ∧ Qd H) ∨ (J.go i H ∧ ∃ Nx : Hp → Prop, (∀ H', Nx H' → ∃ m', m' < m ∧ Wv (i + 1) m' H') ∧ ∀ x H', J.yld i H x H' → g x (L2.wipe σ vs) H' fun σ2 H2 => L2.wipe σ2 vs = L2.wipe σ vs ∧ tt σ2 H2 fun b H3 =>
        if b = true then te σ2 H3 fun y H4 => ∃ c c', H4 D = some ((ksSgs P w).at_ D c) ∧ (ksSgs P w).put H4 c y c' ∧ Nx (upd H4 D ((ksSgs P w).at_ D c')) else Nx H3) := by
  have r1 := rep.go k1 w1
  have s1 : Same H1 (upd H1 D (.ext (KsAt P w D []))) := same_upd hD
  have hD0 : B.H0 D = none := r1.out0 hD
  have nMu : ¬ W.Mu D := fun m => W.tk w1 m hD
  have rw1 := r1.wipe vs
  have nOwn := fun j z e o s => rw1.noOwn (p := D) hD j z e o s
  have neS : ∀ b o, H1 b = some o → b ≠ D := fun b o e z => by subst z; rw [hD] at e; cases e
  let P' : Nat → Hp → Prop := fun i H' => ∃ ks ωi, i ≤ items.length ∧ H' D = some (.ext (KsAt P w D ks)) ∧ Kp W H1 H' ∧ Rep W B (fun b => Ex b ∨ b = D) H' (L2.wipe σ vs) (wipeD ρ vs) ωi ∧
    scW f ttD teD (wipeD ρ vs) (items.drop i) ks ωi Q
  have agr : ∀ {H'}, Kp W H1 H' → Agr S H1 H' := fun k b o e sb => k b o e (hm b sb)
  refine ⟨fun i m H' => m = items.length - i ∧ P' i H', ⟨items.length, by simp, [], ω1, Nat.zero_le _, upd_same, Kp.same s1, rw1.alloc hD _, by simpa using q⟩, ?_⟩
  rintro i m H2 ⟨rfl, ks, ωi, hi, hd, k2, r2, q2⟩
  by_cases hlt : i < items.length
  · refine .inr ⟨wk.goes i H2 hlt (agr k2), fun H' => P' (i + 1) H', fun H' p => ⟨_, by omega, rfl, p⟩, fun x H3 y => ?_⟩
    obtain ⟨sm, d, hd', dq⟩ := wk.yields i H2 x H3 (fun b => Ex b ∨ b = D) hlt (agr k2) r2.tr (fun a h => by
      rcases h with h | h
      · exact .inl h
      · subst h; exact .inr hD) y
    have r3 := r2.grow sm
    have ed : items.drop i = d :: items.drop (i + 1) := by
      rw [List.drop_eq_getElem_cons hlt]
      have : items[i] = d := by
        rw [List.getElem?_eq_getElem hlt] at hd'
        exact Option.some.inj hd'
      rw [this]
    rw [ed] at q2
    obtain ⟨ρ', ef, q3⟩ := q2
    refine G.run r3 dq ef fun σ' rs ew => ?_
    refine ⟨by rw [ew, wipe_idem], ?_⟩
    refine ht _ _ _ _ _ _ _ _ rs q3 fun b ω' H4 q4 k4 w4 => ?_
    have rs4 := rs.go k4 w4
    cases b with
    | false =>
      rw [if_neg Bool.false_ne_true] at q4
      rw [if_neg Bool.false_ne_true]
      exact ⟨ks, ω', hlt, k4 D _ (sm D _ hd) nMu, k2.trans ((Kp.same sm).trans k4), r3.go k4 w4, q4⟩
    | true =>
      rw [if_pos rfl] at q4
      rw [if_pos rfl]
      refine he _ _ _ _ _ _ _ _ rs4 q4 fun d2 ω5 v H5 ⟨k, ek, hz, q5⟩ k5 w5 dq5 => ?_
      have kk := (Kp.same (W := W) sm).trans (k4.trans k5)
      have hd5 := kk D _ hd nMu
      have r5 := r2.go kk w5
      refine ⟨ks, _, hd5, ⟨k, scK_ok dq5 ek, hz, rfl⟩, addK ks k, ω5, hlt, upd_same, fun b o e n => ?_, r5.poke (.inr rfl) hD0 _ nOwn, q5⟩
      rw [upd_ne (neS b o e)]
      exact kk b o (k2 b o e n) n
  · have e : i = items.length := by omega
    subst e
    have e0 : items.drop items.length = [] := List.drop_length
    rw [e0] at q2
    exact .inl ⟨wk.stops H2 (agr k2), done ks ωi H2 q2 (k1.trans k2) r2.wo hd⟩
section
variable {X : Cx} {W : Wo} {pos : Pos}
/-- {e for x in xs if t}, as a value -/
theorem de_sc {cl : Bool} {elt tg iter : Expr} {ifs : List Expr} {scope : Scope} {own : List (Str × Nat)} {ti : DIt W} {g : TG} {f : D → Rho → Option Rho} {tt : DB W} {te : DT W} (hu : X.A.units + 64 < cLine) (hc : X.calm = true) (hN : X.N.Nodup) (hi : DI cl X W tg iter ti) (ok : BlkOk X.N X.env.scope scope own)
    (G : Gf g (own.map (·.2)) f) (hg : ∀ (s : Shared) (H : Hp) (C : Addr) (cl : List (Str × Addr)) (fp : List Addr), PG (X.blk s H scope (compEnvC scope cl C X.env) fp) tg g)
    (ht : ∃ tt', (∀ (s : Shared) (H : Hp) (C : Addr) (cl : List (Str × Addr)) (fp : List Addr), PTs (X.blk s H scope (compEnvC scope cl C X.env) fp) ifs tt') ∧
      ∀ (B : Bs) (Ex : Addr → Prop) (ρ : Rho) (ω : W.Om) (σ : List (Option V)) (H : Hp) (Q : Bool → W.Om → Prop) (Q' : Bool → Hp → Prop), Rep W B Ex H σ ρ ω → tt ρ ω Q → (∀ b ω' H', Q b ω' → Kp W H H' → W.at Ex ω' H' → Q' b H') → tt' σ H Q')
    (he : ∀ (s : Shared) (H : Hp) (C : Addr) (cl : List (Str × Addr)) (fp : List Addr), DE (X.blk s H scope (compEnvC scope cl C X.env) fp) W elt te) (hs : ∀ x, foldedSetIterable iter X.env x = pure x := by intro _; rfl) :
    DE X W (.SetComp elt [⟨tg, iter, ifs, 0⟩] scope pos) (dSc X.prog X.w ti (own.map (·.2)) f tt te) := by
  obtain ⟨wi, h1, h2⟩ := hi
  obtain ⟨tt', t1, t2⟩ := ht
  have pe : PE X (.SetComp elt [⟨tg, iter, ifs, 0⟩] scope pos) (tSg (ksSgs X.prog X.w) wi g tt' (tD Cl W te) (own.map (·.2))) := by
    refine ⟨fun pins s σ H Q I h => ?_⟩
    rw [eval_SetComp]
    refine sg_go _ hu hc hN I h1 ok hg t1 (fun s H C cl fp => (he s H C cl fp).pe) hs h fun D C s' m H' I' q hn f => ⟨m, hn, fun h'' sb => ?_⟩
    obtain ⟨f0, f1, f2, f3, f4, f5⟩ := f
    exact ⟨.ref D, H', I'.turned (t' := s'.toks) (fun b o hb e => (sb.2 b hb).trans e) f0 f1 f3 f4 f5, rfl, q⟩
  refine DX.of pe fun B Ex ρ ω σ H Q rep q => h2 B Ex ρ ω σ H _ _ rep q fun items ω1 J H1 S q1 k1 w1 hm _ wk D hD => ?_
  refine sc_walk rep k1 w1 hm wk hD G t2 (fun B Ex ρ ω σ H Q Q' rep q f => ⟨B, Ex, ρ, ω, Q, rep, q, f⟩) q1 fun ks ω' H' q' k' w' hd => ?_
  have nE : ¬ Ex D := (rep.go k1 w1).new hD
  exact ⟨_, ω', k', W.le w' fun b m => .inl (.inl m), .ext (φ := fun a _ h => KsAt X.prog X.w a ks h) (vs := []) hd nE .nil, q'⟩
/-- len(s), s a set -/
theorem call_lenKs : CallR X (.builtin "len") (fun vs H Q => ∃ a ks, vs = [.ref a] ∧ H a = some (.ext (KsAt X.prog X.w a ks)) ∧ Q (.int ks.length) H) := by
  intro pins s σ H vs us Q I r h
  obtain ⟨a, ks, rfl, ha, q⟩ := h
  obtain ⟨u, rfl, ru⟩ := vals1 r
  cases ru
  obtain ⟨⟨nd, S, ⟨o, es, ep, t, ho, hex, hd, _, _, lt, hf, hn⟩, _⟩, _⟩ := I.hok a _ ha
  exact call_len_set ho hex hd hf (by have : scanBound = 4096 := rfl; omega) ⟨.int ks.length, H, I.tok _, ⟨_, by rw [hn]⟩, q⟩
def dLenS {W : Wo} (P : Program) (w : World) (ta : DT W) : DT W := fun ρ ω Q => ta ρ ω fun x ω1 => ∃ ks : List (Option Key), x = ksD P w ks ∧ Q (.int ks.length) ω1
theorem de_lenS {e : Expr} {ta : DT W} {p : Pos} (hg : Gl X "len") (hm : X.mg "len" = none) (hv : bootBuiltins "len" = some (.builtin "len")) (ha : DE X W e ta) (he : starEach [e] X.env = (false, eval e X.env) :: starEach [] X.env := by rfl) (hpl : (backTo pos (starEach [] X.env)).any (·.1) = false := by rfl) :
    DE X W (.Call (.Name "len" p) [e] [] pos) (dLenS X.prog X.w ta) := by
  refine DX.of (pe_callB call_lenKs hg hm hv (pa_cons ha.pe pa_nil he) (by decide) (by decide) he hpl) fun B Ex ρ ω σ H Q rep q => ⟨B, Ex, ρ, ω, _, rep, q, fun d ω1 v H1 ⟨ks, e, q1⟩ k1 w1 z1 => ?_⟩
  subst e
  obtain ⟨a, vs, rfl, h1, _, h3⟩ := (Bq.of (W := W) z1).ofX
  exact ⟨a, ks, rfl, h1, _, ω1, k1, w1, .int _, q1⟩
end
end Tk

namespace Tk
open PySem PySem.Spec PyProof.Rows L2

/-! ## enumerate(list, start=k), enumerate(list) -/
/-- the list at a, each item in a new pair behind its number, from k0 on -/
def Iten (K : PySem.W.Frag) (a : Addr) (k0 : Int) : It :=
  ⟨fun i H => ∃ (xs : List V) (x : V), SqL K H a xs ∧ xs[i]? = some x,
   fun i H v H' => ∃ T x o, v = .ref T ∧ H T = none ∧ o.dict = none ∧ H' = upd H T (.frz o (.tup [.int (k0 + (i : Int)), x])) ∧ ∀ xs, SqL K H a xs → xs[i]? = some x,
   fun i H => ∃ xs : List V, SqL K H a xs ∧ xs.length = i⟩
theorem turn_en {P : Program} {w : World} {K : PySem.W.Frag} {elts : List Expr} {kk : Nat} {tpos : Pos} (a e it : Addr) (k0 : Int) (ne : a ≠ it) (ne' : a ≠ e) :
    Turn P w K (.Tuple elts kk tpos) (Iten K a k0) [e, it] e (fun i h => (∃ old, IsEnum h e it (k0 + (i : Int)) old) ∧ h.IsListIter it a i ∧ e ≠ it) where
  mem := List.mem_cons_self
  obj := by
    rintro i h ⟨⟨old, he⟩, ⟨o, ho, hc, hd⟩, _⟩ b hb
    rcases List.mem_cons.mp hb with rfl | hb
    · exact ⟨_, he, fun v q => nomatch q⟩
    · rw [List.mem_singleton.mp hb]
      exact ⟨o, ho, fun v q => by rw [hd] at q; cases q⟩
  keep := by
    rintro i h h' ⟨⟨old, he⟩, hi, hne⟩ k
    exact ⟨⟨old, k e (by simp) _ he⟩, hi.at fun o q => k it (by simp) o q, hne⟩
  item := by
    intro X hP hw hK hc i pins s σ H E I hf st hg
    subst hP hw hK
    obtain ⟨⟨old, he⟩, hit, hne⟩ := st
    obtain ⟨xs, x, hq, hx⟩ := hg
    obtain ⟨its, rv, p, hz⟩ := I.list hq
    obtain ⟨u, hu, ru⟩ := rv.get hx
    have hel : e < s.heap.objs.size := Heap.lt_size he
    have hil : it < s.heap.objs.size := by obtain ⟨_, q, _⟩ := hit; exact Heap.lt_size q
    have hsz : i < its.toArray.size := by
      rw [List.size_toArray]
      exact (List.getElem?_eq_some_iff.mp hu).1
    refine wpAny_pyNext_enum_itemC (Draws.list (A := X.A.in1) (I.ok.hd hc) it a ne its.toArray) he ⟨hit, p.isList⟩ hsz hne (by simp [hne, Ne.symm ne']) fun x' h' tk hP ho hit' hT hsz' hk => ?_
    have ex : x' = u := by
      have : its[i]? = some x' := by simpa using hP
      rw [hu] at this
      exact (Option.some.inj this).symm
    subst ex
    refine ⟨_, rfl, wpAny_letOwnedTupleGo_enum (s := { s with heap := h', toks := tk + 1 }) ho fun h'' he' sb => ?_⟩
    have hT2 : h''.get? s.heap.objs.size = some { cls := .type "tuple", data := .seq #[.int (k0 + (i : Int)) tk, x'] } := (sb.2 _ (Nat.ne_of_gt hel)).trans hT
    have new : ObjOk X.prog X.w (upd H s.heap.objs.size (.frz { cls := .type "tuple", data := .seq #[.int (k0 + (i : Int)) tk, x'] } (.tup [.int (k0 + (i : Int)), x]))) h'' s.heap.objs.size (.frz { cls := .type "tuple", data := .seq #[.int (k0 + (i : Int)) tk, x'] } (.tup [.int (k0 + (i : Int)), x])) :=
      ⟨hT2, by show 2 ≤ sizeLine; decide, [.int (k0 + (i : Int)) tk, x'], .cons ⟨_, rfl⟩ (.cons ru .nil), ⟨_, hT2, rfl, _, rfl⟩⟩
    have I1 := I.turnedNew (t' := tk + 1) (ch := [e, it]) (fun b ob hb q => (sb.2 b (fun z => hb (by simp [z]))).trans (hk b ob (fun z => hb (by simp [z])) (fun z => hb (by simp [z])) q)) hf (Nat.le_refl _) new
    refine ⟨.ref s.heap.objs.size, _, I1, rfl, ⟨_, x, _, rfl, I.hok.fresh (Nat.le_refl _), rfl, rfl, fun ys hy => by rw [I.list_inj hy hq]; exact hx⟩, ⟨⟨x', ?_⟩, hit'.1.at fun o q => (sb.2 it (Ne.symm hne)).trans q, hne⟩, fun b hb => ?_⟩
    · have e1 : (k0 + ((i + 1 : Nat) : Int)) = k0 + (i : Int) + 1 := by omega
      rw [e1]
      exact he'
    · have hb' : b < s.heap.objs.size := by
        rcases List.mem_cons.mp hb with rfl | z
        · exact hel
        · rw [List.mem_singleton.mp z]; exact hil
      rw [upd_ne (Nat.ne_of_lt hb')]
      exact (hf b hb).1
  done := by
    intro X hP hw hK hc i pins s σ H E I hf st hg
    subst hP hw hK
    obtain ⟨⟨old, he⟩, hit, hne⟩ := st
    obtain ⟨xs, hq, hx⟩ := hg
    obtain ⟨its, rv, p, hz⟩ := I.list hq
    obtain ⟨f0, f1, f2, f3, f4, f5⟩ := hf it (by simp)
    have hl : its.toArray.size = i := by rw [List.size_toArray, ← rv.length]; exact hx
    refine wpAny_pyNext_enum_endD (Draws.list (A := X.A.in1) (I.ok.hd hc) it a ne its.toArray) he ⟨by rw [hl]; exact hit, p.isList⟩ fun h' eb => ⟨rfl, I.turned (t' := s.toks) (fun b o hb q => eb b o hb q) f0 f1 f3 f4 f5⟩
  self := by
    rintro A i s Q E ⟨⟨_, he⟩, _⟩ h
    exact wpAny_pyIter_enum he h

section
variable {X : Cx} {pos p tpos kp : Pos} {e c : Expr} {es : List Expr} {kws : List Keyword} {elts : List Expr} {kk : Nat}
/-- a built-in class called with keywords -/
theorem callWith_tyKw {M : Model} {A : Around} {E : Value → Shared → Prop} {s : Shared} {env : Env} {T : String} {Q : Value → Shared → Prop}
    (h : wpAny M A (spliced (backTo pos (starEach (e :: es) env))) (fun vs s1 => wpAny M A (evalAll ((backToKw pos (keywordEach kws env)).map (·.2)))
      (fun ks s2 => wpAny M A (call (.type T) vs (((backToKw pos (keywordEach kws env)).filterMap (·.1)).zip ks)) Q E s2) E s1) E s)
    (first : backTo pos (starEach (e :: es) env) = (false, eval e env) :: backTo pos (starEach es env)) (hplain : (backTo pos (starEach (e :: es) env)).any (·.1) = false)
    (named : (backToKw pos (keywordEach kws env)).all (·.1.isSome) = true) (hkw : (backToKw pos (keywordEach kws env)).any (·.1.isNone) = false) :
    wpAny M A (callWith pos (.type T) [] (backTo pos (starEach (e :: es) env)) (backToKw pos (keywordEach kws env))) Q E s := by
  have args : wpAny M A (evalArgs (.type T) true (backTo pos (starEach (e :: es) env)) (backToKw pos (keywordEach kws env))) (fun a s1 => wpAny M A (call (.type T) ([] ++ a.pos) a.kw) Q E s1) E s := by
    rw [first] at h ⊢
    exact PyProof.Rows.evalArgs_kwB named h
  unfold callWith
  refine wpAny_bind (wpAny_holding (wpAny_mono args (fun a s1 h1 => wpAny_bind (wpAny_standAt ?_)) fun _ _ x => x))
  simp only [hplain, hkw, Bool.or_false]
  refine wpAny_bind (wpAny_pure ?_)
  exact wpAny_bind (wpAny_mono h1 (fun r s2 hr => wpAny_bind (wpAny_holding (wpAny_point (wpAny_pure hr)))) fun _ _ x => x)
def iEn (K : PySem.W.Frag) (ta tc : TE) : TI := fun σ H R => ta σ H fun x H1 => tc σ H1 fun y H2 => ∃ (a : Addr) (k : Int) (xs : List V), x = .ref a ∧ y = .int k ∧ SqL K H2 a xs ∧ -(2 ^ 63) ≤ k ∧ k < 2 ^ 63 ∧ R (Iten K a k) H2
theorem pi_en {ta tc : TE} (hg : Gl X "enumerate") (hm : X.mg "enumerate" = none) (ha : PE X e ta) (hc : PE X c tc) (na : starEach [e] X.env = (false, eval e X.env) :: starEach [] X.env := by rfl)
    (first : backTo pos (starEach [e] X.env) = (false, eval e X.env) :: backTo pos (starEach [] X.env) := by rfl) (hplain : (backTo pos (starEach [e] X.env)).any (·.1) = false := by rfl)
    (named : (backToKw pos (keywordEach [⟨some "start", c, kp⟩] X.env)).all (·.1.isSome) = true := by rfl) (hkw : (backToKw pos (keywordEach [⟨some "start", c, kp⟩] X.env)).any (·.1.isNone) = false := by rfl)
    (hks : (backToKw pos (keywordEach [⟨some "start", c, kp⟩] X.env)).filterMap (·.1) = [Str.ofString "start"] := by rfl) :
    PI X (.Tuple elts kk tpos) (.Call (.Name "enumerate" p) [e] [⟨some "start", c, kp⟩] pos) (iEn X.K ta tc) := by
  refine ⟨fun pins s σ H R I h => ?_⟩
  refine wpAny_Call_Name_kw (ld_blt I hg hm boot_enumerate ?_ (by decide) (by decide))
  refine callWith_tyKw ?_ first hplain named hkw
  refine thn ((pa_cons ha pa_nil na).run pos pins s σ H (fun vs H1 => match vs with
    | [x] => tc σ H1 fun y H2 => ∃ (a : Addr) (k : Int) (xs : List V), x = .ref a ∧ y = .int k ∧ SqL X.K H2 a xs ∧ -(2 ^ 63) ≤ k ∧ k < 2 ^ 63 ∧ R (Iten X.K a k) H2
    | _ => False) I h) fun us s1 ⟨vs, H1, I1, r1, q1⟩ => ?_
  match vs, r1, q1 with
  | [], _, q1 => exact q1.elim
  | _ :: _ :: _, _, q1 => exact q1.elim
  | [x], r1, q1 =>
  obtain ⟨u, rfl, ru⟩ := vals1 r1
  refine thn ((pk_cons hc pk_nil).run pos pins s1 σ H1 (fun vs H2 => match vs with
    | [y] => ∃ (a : Addr) (k : Int) (xs : List V), x = .ref a ∧ y = .int k ∧ SqL X.K H2 a xs ∧ -(2 ^ 63) ≤ k ∧ k < 2 ^ 63 ∧ R (Iten X.K a k) H2
    | _ => False) I1 q1) fun ws s2 ⟨zs, H2, I2, r2, q2⟩ => ?_
  match zs, r2, q2 with
  | [], _, q2 => exact q2.elim
  | _ :: _ :: _, _, q2 => exact q2.elim
  | [y], r2, q2 =>
  obtain ⟨a, k, xs, ex, ek, hq, k0, k1, q⟩ := q2
  subst ex ek
  obtain ⟨w2, rfl, rw2⟩ := vals1 r2
  rw [hks]
  cases ru
  obtain ⟨tk, rfl⟩ := rw2
  obtain ⟨its, rv, p', hz⟩ := I2.list hq
  have hal : a < s2.heap.objs.size := by obtain ⟨o, ho, _⟩ := p'.isList; exact Heap.lt_size ho
  show wpAny _ _ (call (.type "enumerate") [.ref a] [(Str.ofString "start", .int k tk)]) _ _ s2
  refine enum_begins_start (begins_list a its.toArray) p'.isList k0 k1 fun h' he hit hsz hk => wpAny_pyIter_enum he ?_
  have I3 : Inv X pins σ H2 { s2 with heap := h' } := I2.kept (t' := s2.toks) hk
  refine ⟨s2.heap.objs.size + 1, [s2.heap.objs.size + 1, s2.heap.objs.size], _, _, H2, rfl, I3, turn_en a (s2.heap.objs.size + 1) s2.heap.objs.size k (Nat.ne_of_lt hal) (Nat.ne_of_lt (Nat.lt_succ_of_lt hal)), ⟨⟨.none, by simpa using he⟩, ?_, Nat.succ_ne_self _⟩, fun b hb => ?_, q⟩
  · exact ⟨_, hit, rfl, rfl⟩
  · have hle : s2.heap.objs.size ≤ b := by
      rcases List.mem_cons.mp hb with rfl | z
      · exact Nat.le_add_right _ _
      · rw [List.mem_singleton.mp z]; exact Nat.le_refl _
    exact I2.fpOk hle (I2.hok.fresh hle)
end

section
variable {X : Cx} {pos p tpos : Pos} {e : Expr} {elts : List Expr} {kk : Nat}
def iEn0 (K : PySem.W.Frag) (ta : TE) : TI := fun σ H R => ta σ H fun x H1 => ∃ (a : Addr) (xs : List V), x = .ref a ∧ SqL K H1 a xs ∧ R (Iten K a 0) H1
theorem pi_en0 {ta : TE} (hg : Gl X "enumerate") (hm : X.mg "enumerate" = none) (ha : PE X e ta) (na : starEach [e] X.env = (false, eval e X.env) :: starEach [] X.env := by rfl) (na' : starEach [e] X.env = [(false, eval e X.env)] := by rfl) :
    PI X (.Tuple elts kk tpos) (.Call (.Name "enumerate" p) [e] [] pos) (iEn0 X.K ta) := by
  refine ⟨fun pins s σ H R I h => ?_⟩
  refine Call_ (ld_blt I hg hm boot_enumerate (PyProof.Rows.callWith_type1 ?_ na' rfl))
  refine thn ((pa_cons ha pa_nil na).run pos pins s σ H (fun vs H1 => match vs with
    | [x] => ∃ (a : Addr) (xs : List V), x = .ref a ∧ SqL X.K H1 a xs ∧ R (Iten X.K a 0) H1
    | _ => False) I h) fun us s1 ⟨vs, H1, I1, r1, q1⟩ => ?_
  match vs, r1, q1 with
  | [], _, q1 => exact q1.elim
  | _ :: _ :: _, _, q1 => exact q1.elim
  | [x], r1, q1 =>
  obtain ⟨a, xs, ex, hq, q⟩ := q1
  subst ex
  obtain ⟨u, rfl, ru⟩ := vals1 r1
  cases ru
  obtain ⟨its, rv, p', hz⟩ := I1.list hq
  have hal : a < s1.heap.objs.size := by obtain ⟨o, ho, _⟩ := p'.isList; exact Heap.lt_size ho
  refine call_enumerate_list p'.isList fun h' he hit hsz hk => wpAny_pyIter_enum he ?_
  have I3 : Inv X pins σ H1 { s1 with heap := h' } := I1.kept (t' := s1.toks) hk
  refine ⟨s1.heap.objs.size + 1, [s1.heap.objs.size + 1, s1.heap.objs.size], _, _, H1, rfl, I3, turn_en a (s1.heap.objs.size + 1) s1.heap.objs.size 0 (Nat.ne_of_lt hal) (Nat.ne_of_lt (Nat.lt_succ_of_lt hal)), ⟨⟨.none, by simpa using he⟩, hit, Nat.succ_ne_self _⟩, fun b hb => ?_, q⟩
  have hle : s1.heap.objs.size ≤ b := by
    rcases List.mem_cons.mp hb with rfl | z
    · exact Nat.le_add_right _ _
    · rw [List.mem_singleton.mp z]; exact Nat.le_refl _
  exact I1.fpOk hle (I1.hok.fresh hle)
end
/-- the pairs that enumerate gives -/
def enD (k : Int) : List D → List D
  | [] => []
  | x :: xs => .tup [.int k, x] :: enD (k + 1) xs
theorem enD_len : ∀ (k : Int) (xs : List D), (enD k xs).length = xs.length
  | _, [] => rfl
  | k, _ :: xs => congrArg (· + 1) (enD_len (k + 1) xs)
theorem enD_at : ∀ (k : Int) (xs : List D) (i : Nat), (enD k xs)[i]? = xs[i]?.map fun x => .tup [.int (k + (i : Int)), x]
  | _, [], _ => by simp [enD]
  | k, x :: xs, 0 => by simp [enD]
  | k, x :: xs, i + 1 => by
    show (enD (k + 1) xs)[i]? = _
    rw [enD_at (k + 1) xs i]
    have e : k + 1 + (i : Int) = k + ((i + 1 : Nat) : Int) := by omega
    rw [e]
    rfl
theorem wk_en {Ex : Addr → Prop} {S : Addr → Prop} {H1 : Hp} {a : Addr} {vs : List V} {ds : List D} {K : PySem.W.Frag} {k : Int} (h : H1 a = some (.lst vs)) (ha : S a) (q : DqL H1 Ex vs ds) (hS : ∀ b, ¬ Ex b → S b) : Wk (Iten K a k) Ex (enD k ds) S H1 where
  goes := fun i H hi g => ⟨vs, vs[i]'(by rw [q.length, ← enD_len k]; exact hi), SqL.of (g a _ h ha), by simp⟩
  stops := fun H g => ⟨vs, SqL.of (g a _ h ha), by rw [q.length, enD_len]⟩
  yields := by
    rintro i H x H' Ex' hi g tr ou ⟨T, y, o, rfl, hT, od, rfl, at_⟩
    refine ⟨same_upd hT, ?_⟩
    obtain ⟨d, h1, h2⟩ := q.getV (at_ vs (SqL.of (g a _ h ha)))
    refine ⟨_, by rw [enD_at, h1]; rfl, .tup upd_same od (fun m => tr T m hT) (.cons (.int _) (.cons (h2.to fun b ob e n => ⟨?_, fun m => ?_⟩) .nil))⟩
    · rw [upd_ne (fun z => by subst z; rw [g b _ e (hS b n)] at hT; cases hT)]
      exact g b ob e (hS b n)
    · rcases ou b m with z | z
      · exact n z
      · rw [z] at e; cases e
section
variable {X : Cx} {W : Wo} {e c : Expr} {te tc : DT W} {pos p tpos kp : Pos} {elts : List Expr} {kk : Nat}
def dEn0 {W : Wo} (te : DT W) : DIt W := fun ρ ω Q => te ρ ω fun d ω' => ∃ ds, d = .lst ds ∧ Q (enD 0 ds) ω'
def dEn {W : Wo} (te tc : DT W) : DIt W := fun ρ ω Q => te ρ ω fun d ω1 => tc ρ ω1 fun y ω2 => ∃ ds k, d = .lst ds ∧ y = .int k ∧ -(2 ^ 63) ≤ k ∧ k < 2 ^ 63 ∧ Q (enD k ds) ω2
theorem di_en0 (hg : Gl X "enumerate") (hm : X.mg "enumerate" = none) (h : DE X W e te) (na : starEach [e] X.env = (false, eval e X.env) :: starEach [] X.env := by rfl) (na' : starEach [e] X.env = [(false, eval e X.env)] := by rfl) :
    DI true X W (.Tuple elts kk tpos) (.Call (.Name "enumerate" p) [e] [] pos) (dEn0 te) := ⟨_, pi_en0 hg hm h.pe na na', fun B Ex ρ ω σ H Q R' rep q f =>
  ⟨B, Ex, ρ, ω, _, rep, q, fun d ω' v H' ⟨ds, e, q'⟩ k w z => by
    subst e
    obtain ⟨a, vs, rfl, h1, h2⟩ := (Bq.of (W := W) z).ofL
    have ha : ¬ Ex a := by cases z; assumption
    exact ⟨a, vs, rfl, SqL.of h1, f _ ω' _ H' (fun b => ¬ Ex b) q' k w (fun b n m => n (rep.muEx m)) (fun _ b n => n) (wk_en h1 ha h2 fun _ n => n)⟩⟩⟩
theorem di_en (hg : Gl X "enumerate") (hm : X.mg "enumerate" = none) (h : DE X W e te) (hc : DE X W c tc) (na : starEach [e] X.env = (false, eval e X.env) :: starEach [] X.env := by rfl)
    (first : backTo pos (starEach [e] X.env) = (false, eval e X.env) :: backTo pos (starEach [] X.env) := by rfl) (hplain : (backTo pos (starEach [e] X.env)).any (·.1) = false := by rfl)
    (named : (backToKw pos (keywordEach [⟨some "start", c, kp⟩] X.env)).all (·.1.isSome) = true := by rfl) (hkw : (backToKw pos (keywordEach [⟨some "start", c, kp⟩] X.env)).any (·.1.isNone) = false := by rfl)
    (hks : (backToKw pos (keywordEach [⟨some "start", c, kp⟩] X.env)).filterMap (·.1) = [Str.ofString "start"] := by rfl) :
    DI true X W (.Tuple elts kk tpos) (.Call (.Name "enumerate" p) [e] [⟨some "start", c, kp⟩] pos) (dEn te tc) := ⟨_, pi_en hg hm h.pe hc.pe na first hplain named hkw hks, fun B Ex ρ ω σ H Q R' rep q f =>
  two (R := Cl) (S := Cl) rep q fun x y dx dy H2 ω2 kp' rp zx zy ⟨ds, k, e1, e2, k0, k1, q2⟩ => by
    subst e1 e2
    obtain ⟨a, vs, rfl, h1, h2⟩ := (Bq.of (W := W) zx).ofL
    have ha : ¬ Ex a := by cases zx; assumption
    cases zy
    exact ⟨a, k, vs, rfl, rfl, SqL.of h1, k0, k1, f _ ω2 _ H2 (fun b => ¬ Ex b) q2 kp' rp.wo (fun b n m => n (rep.muEx m)) (fun _ b n => n) (wk_en h1 ha h2 fun _ n => n)⟩⟩
end
end Tk

namespace Tk
open PySem PySem.Spec PyProof.Rows L2 PySem.W

/-! ## a, .., *rest = a list -/
section
variable {prog : Program} {w : World} {A : Around} {E : Value → Shared → Prop} {s : Shared}
theorem unpack_rest {l : Addr} {items : Array Value} {k : Nat} {Q : List Value → Shared → Prop} (hl : s.heap.IsList l items) (hh : A.handled = none) (hk : k ≤ items.size) (hz : items.size ≤ sizeLine)
    (h : ∀ (h2 : Heap) (tk : Nat), (∀ b o, s.heap.get? b = some o → h2.get? b = some o) → Q (items.toList.take k ++ [.ref h2.objs.size]) { s with heap := h2.push { cls := .type "list", data := .seq (items.toList.drop k).toArray }, toks := tk }) :
    wpAny (model prog w) A (unpackItems (.ref l) (k + 1) (some k)) Q E s := by
  have lt : l < s.heap.objs.size := by obtain ⟨o, ho, _⟩ := hl; exact Heap.lt_size ho
  have ne : l ≠ s.heap.objs.size := Nat.ne_of_lt lt
  unfold unpackItems
  refine wpAny_bind ?_
  unfold notIterableAtAll
  refine wpAny_bind (wpAny_specialOf hl.typeIs PySem.F.slot_list_iter.lookup (wpAny_pure ?_))
  simp only [Bool.false_eq_true, if_false]
  refine wpAny_bind (wpAny_holding (wpAny_pyIter_list hl ?_))
  refine wpAny_bind (wpAny_holding (kun_draw ne k 0 _ _ ⟨_, Heap.get?_push_size _ rfl, rfl, rfl⟩ (hl.push _) (by omega) fun h1 it1 sb1 => ?_))
  have l1 : h1.IsList l items := (hl.push _).extBut sb1.extBut ne
  rw [Nat.zero_add] at it1
  have lt1 : s.heap.objs.size < h1.objs.size := by obtain ⟨o, ho, _⟩ := it1; exact Heap.lt_size ho
  have ltl : l < h1.objs.size := by obtain ⟨o, ho, _⟩ := l1; exact Heap.lt_size ho
  rw [List.drop_zero]
  have many : (items.toList.take k).length = k := by rw [List.length_take, Array.length_toList]; omega
  rw [if_neg (show ¬ ((items.toList.take k).length < k) by omega)]
  refine wpAny_bind (wpAny_holding (kun_collect (s := { s with heap := h1 }) (T := "list_iterator") (.inr (.inr (.inl rfl))) (Walks.list (A := A.in1) hh s.heap.objs.size l ne items) (fun j u st => st.1.typeIs) (k := k) hk ⟨it1, l1⟩ lt1 ltl (fun h2 tk keep => ?_) hz))
  have left : (items.toList.drop k).length = items.size - k := by rw [List.length_drop, Array.length_toList]
  have e0 : k + 1 - 1 - k = 0 := by omega
  show wpAny _ _ (if (items.toList.drop k).length < k + 1 - 1 - k then _ else _) _ _ _
  rw [e0, if_neg (Nat.not_lt_zero _)]
  show wpAny _ _ (newList ((items.toList.drop k).take ((items.toList.drop k).length - 0)) >>= fun d => pure (items.toList.take k ++ [d] ++ (items.toList.drop k).drop ((items.toList.drop k).length - 0))) _ _ _
  rw [Nat.sub_zero, List.take_length, List.drop_length]
  refine wpAny_bind (wpAny_newList (s := { s with heap := h2, toks := tk }) (wpAny_pure ?_) (by rw [left]; omega))
  rw [List.append_nil]
  exact h h2 tk fun b o e => keep b o (Nat.ne_of_lt (Heap.lt_size e)) (sb1.extBut b o (Nat.ne_of_lt (Heap.lt_size e)) (Heap.get?_push_of_some _ e))
end
/-- the list at a: k names and the rest, a new list -/
def gRest (K : PySem.W.Frag) (k : Nat) (t : TGs) : TG := fun v σ H Q => ∃ a xs, v = .ref a ∧ SqL K H a xs ∧ k ≤ xs.length ∧ ∀ D, H D = none → t (xs.take k ++ [.ref D]) σ (upd H D (.lst (xs.drop k))) Q
section
variable {X : Cx} {pos : Pos}
theorem pg_rest {es es' : List Expr} {j k : Nat} {t : TGs} (hc : X.calm = true) (h : PGs X es' t) (he : (assignEach es X.env).map (·.2) = (assignEach es' X.env).map (·.2) := by rfl)
    (hn : (assignEach es X.env).length = k + 1 := by rfl) (hst : (assignEach es X.env).findIdx? (·.1) = some k := by rfl) : PG X (.Tuple es j pos) (gRest X.K k t) := by
  refine ⟨fun pins s σ H v u Q I r hw => ?_⟩
  obtain ⟨a, xs, rfl, hq, hl, hw⟩ := hw
  cases r
  obtain ⟨its, rv, ht, hz⟩ := I.list hq
  rw [assign_Tuple]
  refine wpAny_bind (wpAny_standAt ?_)
  unfold unpack
  rw [hn, hst]
  have hsz : its.toArray.size = xs.length := by rw [List.size_toArray, ← rv.length]
  refine wpAny_bind (wpAny_holding (unpack_rest ht.isList (I.ok.hd hc) (by omega) (by omega) fun h2 tk keep => ?_))
  have I2 : Inv X pins σ H { s with heap := h2, toks := tk } := I.kept keep
  have free : H h2.objs.size = none := I2.hok.fresh (Nat.le_refl _)
  have vals : Vals (xs.drop k) (its.drop k) := Vals.drop k rv
  have I3 : Inv X pins σ (upd H h2.objs.size (.lst (xs.drop k))) { s with heap := h2.push { cls := .type "list", data := .seq (its.drop k).toArray }, toks := tk } := by
    refine I2.laid (t' := tk) (fun b o e => Heap.get?_push_of_some _ e) (Nat.le_refl _) ⟨?_, its.drop k, 0, vals, Heap.get?_push_size _ rfl⟩
    rw [List.length_drop]
    exact Nat.le_trans (Nat.sub_le _ _) hz
  rw [he]
  refine h.run pins _ σ _ (xs.take k ++ [.ref h2.objs.size]) _ Q I3 ?_ (hw _ free)
  exact (Vals.take k rv).append (.cons rfl .nil)
def dRest {W : Wo} (is : List Nat) (te : DT W) : DTS W := fun D0 ρ ω => te ρ ω fun d ω' => ∃ ds, d = .lst ds ∧ is.length ≤ ds.length + 1 ∧ 1 ≤ is.length ∧ D0.nx (setAll is (ds.take (is.length - 1) ++ [.lst (ds.drop (is.length - 1))]) ρ) ω'
theorem ds_rest {W : Wo} {is : List Nat} {es es' : List Expr} {e : Expr} {te : DT W} {j : Nat} {tp : Pos} (hc : X.calm = true) (hg : PGs X es' (gNames is)) (h : DE X W e te) (he : (assignEach es X.env).map (·.2) = (assignEach es' X.env).map (·.2) := by rfl)
    (hn : (assignEach es X.env).length = is.length - 1 + 1 := by rfl) (hst : (assignEach es X.env).findIdx? (·.1) = some (is.length - 1) := by rfl) (hs : swapsWithSole [.Tuple es j tp] e pos.line X.env = pure false := by rfl) (hw : swappedStores [.Tuple es j tp] e X.env = pure none := by rfl)
    (h1 : (assignEach [.Tuple es j tp] X.env).map (·.2) = [assign (.Tuple es j tp) X.env] := by rfl) : DS X W (.Assign [.Tuple es j tp] e pos) (dRest is te) :=
  DS.of (ps_asg h.pe (pg_rest hc hg he hn hst) hs hw h1) fun B Ex ρ ω σ H D0 rep q => ⟨B, Ex, ρ, ω, _, rep, q, fun d ω' v H' ⟨ds, e, l1, l2, q'⟩ k w z => by
    subst e
    obtain ⟨a, vs, rfl, h1, h2⟩ := (Bq.of (W := W) z).ofL
    refine ⟨a, vs, rfl, SqL.of h1, by rw [h2.length]; omega, fun D hD => ?_⟩
    have r1 := rep.go k w
    have sm : Same H' (upd H' D (.lst (vs.drop (is.length - 1)))) := same_upd hD
    have r2 := r1.grow sm
    have nD : ¬ Ex D := fun m => r1.tr D m hD
    refine gnames_run is is (fun _ h => h) ?_ r2 (((h2.take (is.length - 1)).same sm).append (.cons (.lst upd_same nD ((h2.drop (is.length - 1)).same sm)) .nil)) fun σ' r _ => ⟨Ex, _, ω', (rep.stp k w).trans (Stp.of (W := W) (Kp.same sm) (fun a m => rep.muEx m) fun a m => r2.tr a m), r, q'⟩
    rw [List.length_append, List.length_take, List.length_singleton]
    omega⟩
end
end Tk

namespace Tk
open PySem PySem.Spec PyProof.Rows L2

/-! ## isinstance(x, C), C a class of the module -/
/-- no built-in class is below the class at C -/
def NotI (K : PySem.W.Frag) (C : Addr) : Prop := bts.all (fun T => PySem.W.kitOne K (.type T) (.ref C) == some false) = true
theorem NotI.mk {K : PySem.W.Frag} {C : Addr} (h : ∀ T ∈ bts, PySem.W.kitOne K (.type T) (.ref C) = some false) : NotI K C := List.all_eq_true.mpr fun T m => by rw [h T m]; rfl
theorem subs_all {K : PySem.W.Frag} {C : Addr} (h0 : PySem.W.subIn K (.type "NoneType") (.ref C) = some false) (h1 : PySem.W.subIn K (.type "bool") (.ref C) = some false) (h2 : PySem.W.subIn K (.type "int") (.ref C) = some false) (h3 : PySem.W.subIn K (.type "str") (.ref C) = some false) (h4 : PySem.W.subIn K (.type "list") (.ref C) = some false) (h5 : PySem.W.subIn K (.type "tuple") (.ref C) = some false) (h6 : PySem.W.subIn K (.type "dict") (.ref C) = some false) : ∀ T ∈ bts, PySem.W.subIn K (.type T) (.ref C) = some false := fun T m => by
  have : T = "NoneType" ∨ T = "bool" ∨ T = "int" ∨ T = "str" ∨ T = "list" ∨ T = "tuple" ∨ T = "dict" := by simpa [bts] using m
  rcases this with rfl | rfl | rfl | rfl | rfl | rfl | rfl <;> assumption
theorem NotI.of {K : PySem.W.Frag} {C : Addr} (h : ∀ T ∈ bts, PySem.W.subIn K (.type T) (.ref C) = some false) (c : PySem.W.isClsIn K C = true) (t : PySem.W.typeIn K (.ref C) = some (.type "type")) : NotI K C := .mk fun T m => by
  have ne : (Value.type T == Value.ref C) = false := rfl
  unfold PySem.W.kitOne
  rw [ne, if_neg Bool.false_ne_true]
  show (if ((PySem.W.clsIn K C).isSome && PySem.W.typeIn K (.ref C) == some (.type "type")) = true then PySem.W.subIn K (.type T) (.ref C) else none) = _
  rw [if_pos, h T m]
  rw [Bool.and_eq_true, t]
  exact ⟨c, beq_self_eq_true _⟩
theorem NotB.of {K : PySem.W.Frag} {C : Addr} (h : ∀ T ∈ bts, PySem.W.subIn K (.type T) (.ref C) = some false) : NotB K C := List.all_eq_true.mpr fun T m => by
  unfold PySem.W.notFirst
  rw [h T m, Bool.or_eq_true]
  exact .inr (beq_self_eq_true _)
def isJ : D → Bool
  | .obj _ _ _ => true
  | _ => false
theorem isJ_ok {K : PySem.W.Frag} {C : Addr} {d : D} {t : Value} (h : NotI K C) (e : tyC C d = some t) : PySem.W.kitOne K t (.ref C) = some (isJ d) := by
  have go : ∀ T ∈ bts, PySem.W.kitOne K (.type T) (.ref C) = some false := fun T m => by
    have := List.all_eq_true.mp h T m
    simpa using this
  cases d with
  | ob a => cases e
  | ext _ _ => cases e
  | exc _ _ _ => cases e
  | obj C' ns ds =>
    simp only [tyC] at e
    split at e
    · cases e
      unfold PySem.W.kitOne
      simp [isJ]
    · cases e
  | non => cases e; exact go "NoneType" (by decide)
  | bl b => cases e; exact go "bool" (by decide)
  | int i => cases e; exact go "int" (by decide)
  | str x => cases e; exact go "str" (by decide)
  | lst xs => cases e; exact go "list" (by decide)
  | tup xs => cases e; exact go "tuple" (by decide)
  | dic xs => cases e; exact go "dict" (by decide)
section
variable {R : RQ} {X : Cx} {W : Wo} {a : Expr} {pos p pt : Pos} {ta : DT W} {C : Addr} {x : Str}
def dIsiC {W : Wo} (C : Addr) (ta : DT W) : DT W := fun ρ ω Q => ta ρ ω fun x ω1 => (tyC C x).isSome = true ∧ Q (.bl (isJ x)) ω1
theorem de_isiC [Stab R] (hg : Gl X "isinstance") (hm : X.mg "isinstance" = none) (ha : DX R X W a ta) (hgx : Gl X x) (hmx : X.mg x = some (.ref C)) (c : Cls X.K C) (ic : IsC X.K C) (ni : NotI X.K C)
    (hdb : (x == ("__debug__" : Str)) = false := by decide) (he : starEach [a, .Name x pt] X.env = (false, eval a X.env) :: starEach [.Name x pt] X.env := by rfl) (he2 : starEach [.Name x pt] X.env = (false, eval (.Name x pt) X.env) :: starEach [] X.env := by rfl)
    (hpl : (backTo pos (starEach [.Name x pt] X.env)).any (·.1) = false := by rfl) :
    DE X W (.Call (.Name "isinstance" p) [a, .Name x pt] [] pos) (dIsiC C ta) := by
  refine DX.of (pe_callB call_isi hg hm (by decide +kernel) (pa_cons ha.pe (pa_cons (pe_glob (v := .ref C) hgx hmx rfl hdb) pa_nil he2) he) (by decide) (by decide) he hpl) fun B Ex ρ ω σ H Q rep q => ⟨B, Ex, ρ, ω, _, rep, q, fun d ω1 v H1 ⟨n, q1⟩ k1 w1 z1 => ?_⟩
  obtain ⟨t, e⟩ := Option.isSome_iff_exists.mp n
  exact ⟨v, .ref C, t, .ref C, isJ d, rfl, .own C, tyC_ok c ic (Stab.bq z1) e, isJ_ok ni e, _, ω1, k1, w1, .bl _, q1⟩
end
end Tk

namespace Tk
open PySem PySem.Spec PyProof.Rows L2

/-! ## calls that are handed the def's own lists -/
mutual
/-- no list, no dict within -/
def D.noL : D → Bool
  | .lst _ => false
  | .dic _ => false
  | .tup xs => D.noLL xs
  | .obj _ _ ds => D.noLL ds
  | .ext _ ds => D.noLL ds
  | .exc _ _ ds => D.noLL ds
  | .non => true | .bl _ => true | .int _ => true | .str _ => true | .ob _ => true
def D.noLL : List D → Bool
  | [] => true
  | d :: ds => d.noL && D.noLL ds
end
/-- a list or a dict stands at b -/
def IsLK (H : Hp) (b : Addr) : Prop := (∃ xs, H b = some (.lst xs)) ∨ ∃ xs, H b = some (.dK xs)
/-- what is shut out of the callee: not the def's own lists -/
def Lent (W : Wo) (H : Hp) (Ex : Addr → Prop) : Addr → Prop := fun b => Ex b ∧ (W.Mu b ∨ ¬ IsLK H b)
section
variable {H : Hp} {Ex Ex' : Addr → Prop}
mutual
theorem Dq.noL_to (k : ∀ a o, H a = some o → ¬ Ex' a → ¬ IsLK H a → ¬ Ex a) : ∀ {v : V} {d : D}, Dq H Ex' v d → d.noL = true → Dq H Ex v d
  | _, _, .non, _ => .non
  | _, _, .bl b, _ => .bl b
  | _, _, .int i, _ => .int i
  | _, _, .str x, _ => .str x
  | _, _, .ob a, _ => .ob a
  | _, _, .obj h n e l, z => .obj h (k _ _ h n (by rintro (⟨_, q⟩ | ⟨_, q⟩) <;> (rw [h] at q; cases q))) e (DqL.noL_to k l z)
  | _, _, .lst h n l, z => nomatch z
  | _, _, .tup h e n l, z => .tup h e (k _ _ h n (by rintro (⟨_, q⟩ | ⟨_, q⟩) <;> (rw [h] at q; cases q))) (DqL.noL_to k l z)
  | _, _, .dic h n l, z => nomatch z
  | _, _, .ext h n l, z => .ext h (k _ _ h n (by rintro (⟨_, q⟩ | ⟨_, q⟩) <;> (rw [h] at q; cases q))) (DqL.noL_to k l z)
  | _, _, .exc h n h2 n2 e l, z => .exc h (k _ _ h n (by rintro (⟨_, q⟩ | ⟨_, q⟩) <;> (rw [h] at q; cases q))) h2 (k _ _ h2 n2 (by rintro (⟨_, q⟩ | ⟨_, q⟩) <;> (rw [h2] at q; cases q))) e (DqL.noL_to k l z)
theorem DqL.noL_to (k : ∀ a o, H a = some o → ¬ Ex' a → ¬ IsLK H a → ¬ Ex a) : ∀ {v : List V} {d : List D}, DqL H Ex' v d → D.noLL d = true → DqL H Ex v d
  | _, _, .nil, _ => .nil
  | _, _, .cons h t, z => .cons (Dq.noL_to k h (Bool.and_eq_true_iff.mp z).1) (DqL.noL_to k t (Bool.and_eq_true_iff.mp z).2)
end
end
theorem Bq.lent {W : Wo} {H : Hp} {Ex : Addr → Prop} {v : V} {d : D} (h : Bq W H Ex v d) : Dq H (Lent W H Ex) v d := by
  cases h with
  | of q => exact q.to fun a o e n => ⟨e, fun m => n m.1⟩
  | lst h1 h2 h3 => exact .lst h1 (fun m => m.2.elim h2 fun z => z (.inl ⟨_, h1⟩)) (h3.to fun a o e n => ⟨e, fun m => n m.1⟩)
  | dic h1 h2 h3 => exact .dic h1 (fun m => m.2.elim h2 fun z => z (.inr ⟨_, h1⟩)) (h3.to fun a o e n => ⟨e, fun m => n m.1⟩)
inductive BqL (W : Wo) (H : Hp) (Ex : Addr → Prop) : List V → List D → Prop
  | nil : BqL W H Ex [] []
  | cons {v : V} {vs : List V} {d : D} {ds : List D} : Bq W H Ex v d → BqL W H Ex vs ds → BqL W H Ex (v :: vs) (d :: ds)
theorem BqL.lent {W : Wo} {H : Hp} {Ex : Addr → Prop} : ∀ {vs : List V} {ds : List D}, BqL W H Ex vs ds → DqL H (Lent W H Ex) vs ds
  | _, _, .nil => .nil
  | _, _, .cons h t => .cons h.lent t.lent
/-- a new thing of a call that was lent lists leans on none of them -/
theorem Dq.back {W : Wo} {H H' : Hp} {Ex : Addr → Prop} {v : V} {d : D} (k : Kp W H H') (h : Dq H' (Lent W H Ex) v d) (n : d.noL = true) : Dq H' Ex v d :=
  h.noL_to (fun a o e m nl x => m ⟨x, by
    by_cases mu : W.Mu a
    · exact .inl mu
    · refine .inr fun z => nl ?_
      rcases z with ⟨xs, z⟩ | ⟨xs, z⟩
      · exact .inl ⟨xs, k a _ z mu⟩
      · exact .inr ⟨xs, k a _ z mu⟩⟩) n
section
variable {R S : RQ} {X : Cx} {W : Wo} {e : Expr} {es : List Expr} {pos : Pos} {ta : DT W} {tl : DA W}
def PostLB (W : Wo) (Ex : Addr → Prop) (H : Hp) (Q : List D → W.Om → Prop) : List V → Hp → Prop := fun vs H' =>
  ∃ ds ω', Kp W H H' ∧ W.at Ex ω' H' ∧ BqL W H' Ex vs ds ∧ Q ds ω'
/-- arguments that may be own lists -/
structure DLB (X : Cx) (W : Wo) (es : List Expr) (t : DA W) : Prop where
  ex : ∃ ta, PA X es ta ∧ ∀ (B : Bs) (Ex : Addr → Prop) (ρ : Rho) (ω : W.Om) (σ : List (Option V)) (H : Hp) (Q : List D → W.Om → Prop) (Q' : List V → Hp → Prop), Rep W B Ex H σ ρ ω → t ρ ω Q →
    (∀ ds ω' vs H', Q ds ω' → Kp W H H' → W.at Ex ω' H' → BqL W H' Ex vs ds → Q' vs H') → ta σ H Q'
theorem dlb_nil : DLB X W [] dNil := ⟨_, pa_nil, fun B Ex ρ ω σ H Q Q' rep q f => f [] ω [] H q Kp.refl rep.wo .nil⟩
theorem dlb_cons [Stab R] (h : DX R X W e ta) (h2 : DLB X W es tl) (hs : starEach (e :: es) X.env = (false, eval e X.env) :: starEach es X.env := by rfl) : DLB X W (e :: es) (dCons ta tl) := by
  obtain ⟨tl', p2, f2⟩ := h2
  refine ⟨_, pa_cons h.pe p2 hs, fun B Ex ρ ω σ H Q Q' rep q f => ⟨B, Ex, ρ, ω, _, rep, q, fun d ω1 v H1 q1 k1 w1 z1 => ?_⟩⟩
  refine f2 B Ex ρ ω1 σ H1 _ _ (rep.go k1 w1) q1 fun ds ω2 vs H2 q2 k2 w2 z2 => ?_
  exact f (d :: ds) ω2 (v :: vs) H2 q2 (k1.trans k2) w2 (.cons (Stab.bq (Stab.keep (fun _ m => rep.muEx m) k2 z1)) z2)
def dCallB {W : Wo} (S : Spd W) (dvs : List D) (tl : DA W) : DT W := fun ρ ω Q => tl ρ ω fun ds ω1 => S (ds ++ dvs) ω1 fun d ω2 => d.noL = true ∧ Q d ω2
theorem de_clB [Fixd W] {k : Nat} {f : Addr} {fd : FuncData} {ps : List Str} {S : Spd W} {dvs : List V} {dds : List D} {dus : List Value} {x : Str} {p : Pos} (F : FnG X.prog X.w X.K X.mg X.base CX0 k f fd ps (spOf W S)) (g : Gd X.A) (hr : Room k X.A)
    (hg : Gl X x) (hm : X.mg x = some (.ref f)) (hk : PySem.W.keepIn X.K (.ref f) = true) (hb : Binds X.K fd ps dus) (hd : Vals dvs dus) (hf : Paired Flat dvs dds) (ha : DLB X W (e :: es) tl)
    (hdb : (x == ("__debug__" : Str)) = false := by decide) (he : starEach (e :: es) X.env = (false, eval e X.env) :: starEach es X.env := by rfl) (hpl : (backTo pos (starEach es X.env)).any (·.1) = false := by rfl) :
    DE X W (.Call (.Name x p) (e :: es) [] pos) (dCallB S dds tl) := by
  obtain ⟨ta, p1, f1⟩ := ha
  refine DX.of (pe_cl F g hr hg hm hk hb hd pass0 p1 hdb he hpl) fun B Ex ρ ω σ H Q rep q => f1 B Ex ρ ω σ H _ _ rep q fun ds ω1 vs H1 q1 k1 w1 z1 => ?_
  refine ⟨Lent W H1 Ex, ω1, ds ++ dds, fun d ω2 => d.noL = true ∧ Q d ω2, W.le w1 fun b m => .inl m.1, fun a m => ⟨rep.muEx m, .inl m⟩, fun a m => (rep.go k1 w1).tr a m.1, z1.lent.append (flats hf), q1, fun d ω2 v H2 ⟨n, q2⟩ k2 w2 z2 => ?_⟩
  exact ⟨d, ω2, k1.trans k2, Fixd.fix w1 w2, z2.back k2 n, q2⟩
end
end Tk

namespace Tk
open PySem PySem.Spec PyProof.Rows L2
/-! ## rows, tables -/
def rowsOk (k : Nat) (rows : List (List D)) : Prop := ∀ r ∈ rows, r.length = k ∧ ∀ x ∈ r, cellD x = true
def tableD (cs : List (List Nat)) (rows : List (List D)) : D := .tup [.tup (nmD cs), .lst (rows.map D.tup)]
theorem eqv_refl {d : D} (h : flt d = true) : eqv d d = true := by
  cases d <;> first | rfl | cases h | skip
  · rename_i b; cases b <;> rfl
  · rename_i i; show (i == i) = true; exact beq_self_eq_true i
  · rename_i x; show decide (x = x) = true; exact decide_eq_true rfl
theorem cell_flt {d : D} (h : cellD d = true) : flt d = true := by
  cases d <;> first | rfl | (simp [cellD, numD, wordD] at h)
theorem idxF_mem {y : D} : ∀ {xs : List D}, y ∈ xs → flt y = true → ∃ j, idxF y xs = some j ∧ j < xs.length
  | [], h, _ => absurd h List.not_mem_nil
  | x :: xs, h, f => by
    unfold idxF
    by_cases c : eqv x y = true
    · exact ⟨0, by rw [if_pos c], Nat.zero_lt_succ _⟩
    · rw [if_neg c]
      rcases List.mem_cons.mp h with e | m
      · rw [e] at f c
        exact absurd (eqv_refl f) c
      · obtain ⟨j, e, l⟩ := idxF_mem m f
        exact ⟨j + 1, by rw [e]; rfl, Nat.succ_lt_succ l⟩
theorem idxL_mem {y : D} {xs : List D} (h : y ∈ xs) (ok : ∀ x ∈ xs, cellD x = true) : ∃ j : Nat, idxL (.lst xs) y = some (.int j) ∧ j < xs.length := by
  obtain ⟨j, e, l⟩ := idxF_mem h (cell_flt (ok y h))
  refine ⟨j, ?_, l⟩
  show (if (flt y && xs.all flt) = true then (idxF y xs).map fun j => D.int (j : Nat) else none) = _
  rw [if_pos (by rw [Bool.and_eq_true]; exact ⟨cell_flt (ok y h), List.all_eq_true.mpr fun x hx => cell_flt (ok x hx)⟩), e]
  rfl
theorem tup_at {xs : List D} {k : Int} (h0 : 0 ≤ k) (h1 : k < xs.length) : ∃ x, ixD (.tup xs) (.int k) = some x ∧ x ∈ xs := atI_in h0 h1
theorem lst_at {xs : List D} {k : Int} (h0 : 0 ≤ k) (h1 : k < xs.length) : ∃ x, ixD (.lst xs) (.int k) = some x ∧ x ∈ xs := atI_in h0 h1
theorem sl_tup_to (xs : List D) (n : Nat) : slD (.tup xs) none (some (n : Int)) = some (.tup (xs.take n)) := by
  show some (D.tup (Tk.cutD xs none (some (n : Int)))) = _
  unfold Tk.cutD
  rw [HT.sIx_none, HT.sIx_nat, List.drop_zero, Nat.sub_zero, ← List.take_eq_take_min]
theorem sl_tup_from (xs : List D) (n : Nat) : slD (.tup xs) (some (n : Int)) none = some (.tup (xs.drop n)) := by
  show some (D.tup (Tk.cutD xs (some (n : Int)) none)) = _
  unfold Tk.cutD
  rw [HT.sIx_none, HT.sIx_nat]
  by_cases h : n ≤ xs.length
  · rw [Nat.min_eq_left h, List.take_of_length_le (by rw [List.length_drop]; omega)]
  · rw [Nat.min_eq_right (by omega), List.drop_length, List.drop_of_length_le (by omega), List.take_nil]
theorem add_tup {a b : List D} (h : a.length + b.length ≤ 1000) : addD (.tup a) (.tup b) = some (.tup (a ++ b)) := by
  show (if a.length + b.length ≤ sizeLine then some (D.tup (a ++ b)) else none) = _
  rw [if_pos (line1000 h)]
theorem mod_ok {a b : Int} (h : 0 < b) : modD (.int a) (.int b) = some (.int (a % b)) := if_pos h
/-- one place of a row otherwise -/
theorem row_put {P : D → Prop} {r : List D} {x : D} {a k : Nat} (hr : r.length = k) (ha : a < k) (h : ∀ y ∈ r, P y) (hx : P x) : (r.take a ++ [x] ++ r.drop (a + 1)).length = k ∧ ∀ y ∈ r.take a ++ [x] ++ r.drop (a + 1), P y := by
  refine ⟨by rw [List.length_append, List.length_append, List.length_take, List.length_drop, List.length_singleton]; omega, fun y hy => ?_⟩
  rcases List.mem_append.mp hy with m | m
  · rcases List.mem_append.mp m with m | m
    · exact h y (List.mem_of_mem_take m)
    · rw [List.mem_singleton.mp m]; exact hx
  · exact h y (List.mem_of_mem_drop m)
theorem rows_at {rows : List (List D)} {j : Nat} {x : D} (h : (rows.map D.tup)[j]? = some x) : ∃ r ∈ rows, x = .tup r := by
  rw [List.getElem?_map] at h
  cases e : rows[j]? with
  | none => rw [e] at h; cases h
  | some r => rw [e] at h; cases h; exact ⟨r, List.mem_of_getElem? e, rfl⟩
theorem rows_ix {rows : List (List D)} {k : Int} (h0 : 0 ≤ k) (h1 : k < rows.length) : ∃ r ∈ rows, ixD (.lst (rows.map D.tup)) (.int k) = some (.tup r) := by
  obtain ⟨x, e, m⟩ := lst_at (xs := rows.map D.tup) h0 (by rw [List.length_map]; exact h1)
  obtain ⟨r, hr, rfl⟩ := List.mem_map.mp m
  exact ⟨r, hr, e⟩

def tblD (C : Addr) (hs : List (List Nat)) (rows : List (List D)) : D := .obj C ["heads", "lines"] [.tup (nmD hs), .lst (rows.map D.tup)]
def tblI (C : Addr) (W : Wo) (ds : List D) (ω : W.Om) (Q : List Str → List D → W.Om → Prop) : Prop := ∃ (hs : List (List Nat)) (rows : List (List D)), ds = [.tup (nmD hs), .lst (rows.map D.tup)] ∧ rows.length ≤ 1000 ∧ Q ["heads", "lines"] [.tup (nmD hs), .lst (rows.map D.tup)] ω
/-- the cells of a column -/
def colD (rows : List (List D)) (j : Nat) : List D := rows.map fun r => r.getD j .non
theorem idxF_nm {ys : List (List Nat)} (nd : ys.Nodup) : ∀ {j : Nat} (h : j < ys.length), idxF (.str (tx ys[j])) (nmD ys) = some j := by
  induction ys with
  | nil => intro j h; exact absurd h (Nat.not_lt_zero _)
  | cons y ys ih =>
    intro j h
    have nd' := List.nodup_cons.mp nd
    cases j with
    | zero =>
      show (if eqv (.str (tx y)) (.str (tx y)) = true then some 0 else _) = _
      rw [if_pos (by rw [eqv_str]; exact decide_eq_true rfl)]
    | succ j =>
      have h' : j < ys.length := Nat.lt_of_succ_lt_succ h
      show (if eqv (.str (tx y)) (.str (tx ys[j])) = true then some 0 else (idxF (.str (tx ys[j])) (nmD ys)).map (· + 1)) = _
      have ne : ¬ (eqv (.str (tx y)) (.str (tx ys[j])) = true) := by
        rw [eqv_str, decide_eq_true_eq]
        intro e
        have := tx_inj e
        exact nd'.1 (by rw [this]; exact List.getElem_mem h')
      rw [if_neg ne, ih nd'.2 h']
      rfl
theorem strs_nm : ∀ ys : List (List Nat), (strsD (nmD ys)).isSome = true
  | [] => rfl
  | y :: ys => by
    show ((strsD (nmD ys)).map _).isSome = true
    rw [Option.isSome_map]
    exact strs_nm ys
theorem flt_nm (ys : List (List Nat)) : (nmD ys).all flt = true := by
  rw [List.all_eq_true]
  intro x hx
  obtain ⟨y, _, rfl⟩ := List.mem_map.mp hx
  rfl
theorem len_flat {α β : Type} (g : α → List β) (m : Nat) : ∀ xs : List α, (∀ x ∈ xs, (g x).length ≤ m) → (xs.flatMap g).length ≤ xs.length * m
  | [], _ => by simp
  | x :: xs, h => by
    have ih := len_flat g m xs fun y hy => h y (List.mem_cons_of_mem _ hy)
    have h1 := h x List.mem_cons_self
    rw [List.flatMap_cons, List.length_append, List.length_cons, Nat.add_mul]
    omega
theorem tx_sh {l : List Nat} (h : l.length ≤ 20 ∧ ∀ c ∈ l, c < 128) : Sh 45 20 0 (.str (tx l)) := by
  refine ⟨?_, rfl, rfl, ?_, ?_, Nat.zero_le _⟩
  · show (decide ((tx l).length ≤ 1000) && PyData.strOk (tx l)) = true
    rw [Bool.and_eq_true, decide_eq_true_eq, tx_len]
    refine ⟨by omega, ?_⟩
    show (tx l).cps.all (· < 0x110000) = true
    rw [← Array.all_toList, List.all_eq_true]
    intro c hc
    have := h.2 c hc
    simp; omega
  · show ((tx l).cps.toList.all fun c => decide (c < 16 ^ 8)) = true
    rw [List.all_eq_true]
    intro c hc
    have := h.2 c hc
    simp; omega
  · show (tx l).length ≤ 20
    rw [tx_len]
    exact h.1
theorem sl_lst_from (xs : List D) (n : Nat) : slD (.lst xs) (some (n : Int)) none = some (.lst (xs.drop n)) := by
  show some (D.lst (Tk.cutD xs (some (n : Int)) none)) = _
  unfold Tk.cutD
  rw [HT.sIx_none, HT.sIx_nat]
  by_cases h : n ≤ xs.length
  · rw [Nat.min_eq_left h, List.take_of_length_le (by rw [List.length_drop]; omega)]
  · rw [Nat.min_eq_right (by omega), List.drop_length, List.drop_of_length_le (by omega), List.take_nil]
theorem nmD_at {ys : List (List Nat)} {k : Nat} (h : k < ys.length) : ixD (.lst (nmD ys)) (.int (k : Int)) = some (.str (tx ys[k])) := by
  show L2.atI (nmD ys) (k : Int) = _
  refine L2.atI_nat ?_
  unfold nmD
  rw [List.getElem?_map, List.getElem?_eq_getElem h]
  rfl
theorem nmD_take (ys : List (List Nat)) (n : Nat) (h : n ≤ ys.length) : slD (.lst (nmD ys)) none (some (n : Int)) = some (.lst (nmD (ys.take n))) := by
  show some (D.lst (Tk.cutD (nmD ys) none (some (n : Int)))) = _
  unfold Tk.cutD
  rw [HT.sIx_none, HT.sIx_nat, List.drop_zero, Nat.sub_zero, ← List.take_eq_take_min]
  unfold nmD
  rw [List.map_take]
theorem cells_noL {r : List D} (h : ∀ x ∈ r, cellD x = true) : (D.tup r).noL = true := by
  show D.noLL r = true
  induction r with
  | nil => rfl
  | cons x xs ih =>
    have hx : x.noL = true := by
      have := h x List.mem_cons_self
      cases x <;> first | rfl | (simp [cellD, numD, wordD] at this)
    exact Bool.and_eq_true_iff.mpr ⟨hx, ih fun y hy => h y (List.mem_cons_of_mem _ hy)⟩
theorem row_sh {r : List D} {n : Nat} (h : ∀ x ∈ r, cellD x = true) (hl : r.length ≤ 8) : Sh 45 808 1 (.tup r) := Sh.tup (n := 100) (k := 0) (m := 8) (fun x hx => cell_sh (h x hx)) hl (by decide) (by decide) (by decide)
theorem rows_sh {rows : List (List D)} {wd : Nat} (h : rowsOk wd rows) (hw : wd ≤ 8) (hl : rows.length ≤ 100) : Sh 45 80900 2 (.lst (rows.map D.tup)) :=
  Sh.lst (n := 808) (k := 1) (m := 100) (fun x hx => by
    obtain ⟨r, hr, rfl⟩ := List.mem_map.mp hx
    obtain ⟨l, o⟩ := h r hr
    exact row_sh (n := 0) o (by omega)) (by rw [List.length_map]; exact hl) (by decide) (by decide) (by decide)
theorem rows_pn {rows : List (List D)} {wd : Nat} (h : rowsOk wd rows) : (D.lst (rows.map D.tup)).pn = true := pnL_all fun x hx => by
  obtain ⟨r, hr, rfl⟩ := List.mem_map.mp hx
  exact pnL_all fun y hy => cell_pn ((h r hr).2 y hy)
theorem rows_shp {rows : List (List D)} {wd : Nat} (h : rowsOk wd rows) (hw : wd ≤ 8) (hl : rows.length ≤ 100) : shp (.lst (rows.map D.tup)) = true := (rows_sh h hw hl).shp (rows_pn h) (by decide)
theorem sl_tup_one (xs : List D) (n : Nat) : slD (.tup xs) (some (n : Int)) (some ((n : Int) + 1)) = some (.tup ((xs.drop n).take 1)) := by
  show some (D.tup (Tk.cutD xs (some (n : Int)) (some ((n : Int) + 1)))) = _
  have e : ((n : Int) + 1) = ((n + 1 : Nat) : Int) := rfl
  unfold Tk.cutD
  rw [e, HT.sIx_nat, HT.sIx_nat]
  by_cases h : n < xs.length
  · rw [Nat.min_eq_left (by omega), Nat.min_eq_left (by omega), show n + 1 - n = 1 by omega]
  · rw [Nat.min_eq_right (by omega), Nat.min_eq_right (by omega), Nat.sub_self, List.take_zero, List.drop_of_length_le (by omega), List.take_nil]
theorem eq_shp {x y : D} (h1 : shp x = true) (h2 : shp y = true) : eqD2 x y = some (.bl (eqv x y)) := by
  unfold eqD2
  cases q : eqE x y with
  | none => simp only; unfold eqD; rw [h1, h2, Bool.and_self, Bool.or_true, if_pos rfl]
  | some z =>
    simp only
    unfold eqE at q
    split at q
    · rename_i xs
      cases q
      rw [eqv_nil]
    · cases q
theorem nm_sh {hs : List (List Nat)} (h : Nms hs) (hl : hs.length ≤ 9) : Sh 45 189 1 (.tup (nmD hs)) := Sh.tup (n := 20) (k := 0) (m := 9) (fun x hx => by
  obtain ⟨y, hy, rfl⟩ := List.mem_map.mp hx
  exact tx_sh (h.sm y hy)) (by unfold nmD; rw [List.length_map]; exact hl) (by decide) (by decide) (by decide)
theorem nm_pn (hs : List (List Nat)) : (D.tup (nmD hs)).pn = true := pnL_all fun x hx => by
  obtain ⟨y, _, rfl⟩ := List.mem_map.mp hx
  rfl
theorem nm_shp {hs : List (List Nat)} (h : Nms hs) (hl : hs.length ≤ 9) : shp (.tup (nmD hs)) = true := (nm_sh h hl).shp (nm_pn hs) (by decide)
end Tk

namespace Tk
open PySem PySem.Spec PyProof.Rows L2

/-! ## how cells are written -/
def figL (i : Int) : List Nat := if i < 0 then 45 :: TL.numL i.natAbs else TL.numL i.natAbs
theorem tx_tl (x : Str) : tx (TL.tl x) = x := rfl
theorem strI_fig (i : Int) : strI i = tx (figL i) := by
  rw [← tx_tl (strI i)]
  congr 1
  unfold strI figL
  cases i with
  | ofNat n => rw [if_neg (by simp)]; exact TL.tl_num n
  | negSucc n =>
    rw [if_pos (Int.negSucc_lt_zero n)]
    have e : toString (Int.negSucc n) = "-" ++ toString (n + 1) := rfl
    rw [e, TL.tl_ofString, String.toList_append, List.map_append, ← TL.tl_num]
    show [45] ++ _ = _
    rw [TL.tl_ofString]
    rfl
theorem numL_nonneg {n k : Nat} (hk : 0 < k) (h : n < 10 ^ k) : (TL.numL n).length ≤ k := TL.numL_len hk h
theorem numL_pos (n : Nat) : 1 ≤ (TL.numL n).length := by
  have := TL.numL_ne n
  cases q : TL.numL n with
  | nil => exact absurd q this
  | cons _ _ => exact Nat.succ_le_succ (Nat.zero_le _)
theorem figL_len {i : Int} (h : i.natAbs < 10 ^ 15) : 1 ≤ (figL i).length ∧ (figL i).length ≤ 16 := by
  have a := numL_pos i.natAbs
  have b := numL_nonneg (k := 15) (by decide) h
  unfold figL
  split
  · rw [List.length_cons]; omega
  · omega
theorem figL_ok {i : Int} : ∀ c ∈ figL i, c = 45 ∨ (48 ≤ c ∧ c ≤ 57) := by
  intro c hc
  unfold figL at hc
  have d := TL.numL_digits i.natAbs
  split at hc
  · rcases List.mem_cons.mp hc with h | h
    · exact .inl h
    · exact .inr (d c h)
  · exact .inr (d c hc)
theorem strD_int {i : Int} (h : i.natAbs < 10 ^ 15) : strD (.int i) = some (.str (tx (figL i))) := by
  show (if i.natAbs.log2 < 1920 then some (D.str (strI i)) else none) = _
  have : i.natAbs.log2 ≤ 49 := log2_le 49 _ (Nat.lt_of_lt_of_le h (by decide))
  rw [if_pos (by omega), strI_fig]
theorem intD_fig {i : Int} (h : i.natAbs < 10 ^ 15) : intD (.str (tx (figL i))) = some (.int i) := by
  have hl := (figL_len h).2
  show (if (tx (figL i)).length ≤ 640 then (PySem.intText? (tx (figL i))).map D.int else none) = _
  rw [if_pos (by rw [tx_len]; omega)]
  have e : PySem.intText? (tx (figL i)) = some i := by
    by_cases c : i < 0
    · have ef : figL i = 45 :: TL.numL i.natAbs := if_pos c
      rw [ef] at hl ⊢
      rw [intText_neg (cs := TL.numL i.natAbs) rfl (TL.numL_digits _) (TL.numL_ne _) (by rw [tx_len]; omega), TL.numL_val]
      congr 1
      omega
    · have ef : figL i = TL.numL i.natAbs := if_neg c
      rw [ef] at hl ⊢
      rw [intText_digits (TL.numL_digits _) (TL.numL_ne _) (by rw [tx_len]; omega)]
      have : (tx (TL.numL i.natAbs)).cps.toList = TL.numL i.natAbs := rfl
      rw [this, TL.numL_val]
      congr 1
      omega
  rw [e]
  rfl
def wrL : D → List Nat
  | .non => [42]
  | .int i => figL i
  | .str x => x.cps.toList
  | _ => []
theorem num_nat {i : Int} (h : cellD (.int i) = true) : i.natAbs < 10 ^ 15 := by
  simp [cellD, numD, wordD, isN] at h
  omega
/-- a text of one to n letters -/
def wdB (l : List Nat) (n : Nat) : Bool := decide (1 ≤ l.length) && (decide (l.length ≤ n) && l.all fun c => decide (c ∈ abcL))
theorem word_wdB {x : Str} (h : cellD (.str x) = true) : wdB x.cps.toList 12 = true := by
  have hl : x.length = x.cps.toList.length := by rw [Array.length_toList]; rfl
  simp only [cellD, numD, wordD, isN, Bool.false_or, Bool.and_eq_true, decide_eq_true_eq] at h
  obtain ⟨⟨h1, h2⟩, h3⟩ := h
  unfold wdB
  rw [Bool.and_eq_true, Bool.and_eq_true, decide_eq_true_eq, decide_eq_true_eq]
  exact ⟨by omega, by omega, h3⟩
theorem wdB_let {l : List Nat} {n : Nat} (h : wdB l n = true) : 1 ≤ l.length ∧ l.length ≤ n ∧ ∀ c ∈ l, c ∈ abcL := by
  unfold wdB at h
  rw [Bool.and_eq_true, Bool.and_eq_true, decide_eq_true_eq, decide_eq_true_eq, List.all_eq_true] at h
  exact ⟨h.1, h.2.1, fun c hc => of_decide_eq_true (h.2.2 c hc)⟩
theorem wdB_of {l : List Nat} {n : Nat} (h1 : 1 ≤ l.length) (h2 : l.length ≤ n) (h3 : ∀ c ∈ l, c ∈ abcL) : wdB l n = true := by
  unfold wdB
  rw [Bool.and_eq_true, Bool.and_eq_true, decide_eq_true_eq, decide_eq_true_eq, List.all_eq_true]
  exact ⟨h1, h2, fun c hc => decide_eq_true (h3 c hc)⟩
theorem nm_wdB {y : List Nat} (h : nmOk y) : wdB y 8 = true := wdB_of h.1 h.2.1 fun c hc => abcL_of (h.2.2 c hc)
/-- a cell's text has no blank, no line feed -/
theorem wrL_ok {d : D} (h : cellD d = true) : 1 ≤ (wrL d).length ∧ (wrL d).length ≤ 16 ∧ ∀ c ∈ wrL d, 33 ≤ c ∧ c < 128 := by
  cases d with
  | non => exact ⟨by decide, by decide, by decide⟩
  | int i =>
    have a := figL_len (num_nat h)
    exact ⟨a.1, a.2, fun c hc => by have := figL_ok c hc; omega⟩
  | str x =>
    have a := wdB_let (word_wdB h)
    exact ⟨a.1, by have := a.2.1; show x.cps.toList.length ≤ 16; omega, fun c hc => by have := abcL_let c (a.2.2 c hc); omega⟩
  | _ => simp [cellD, numD, wordD, isN] at h
/-! ## reading a cell -/
theorem fig_star {i : Int} (h : i.natAbs < 10 ^ 15) : figL i ≠ [42] := by
  intro e
  have := figL_ok 42 (by rw [e]; exact List.mem_singleton.mpr rfl)
  omega
theorem fig_word {i : Int} (h : i.natAbs < 10 ^ 15) (n : Nat) : wdB (figL i) n = false := by
  cases q : wdB (figL i) n with
  | false => rfl
  | true =>
    obtain ⟨a, _, c⟩ := wdB_let q
    have m : (figL i)[0]'(by omega) ∈ figL i := List.getElem_mem _
    have h1 := figL_ok _ m
    have h2 := abcL_let _ (c _ m)
    omega
theorem word_star {l : List Nat} {n : Nat} (h : wdB l n = true) : l ≠ [42] := by
  intro e
  have := abcL_let 42 ((wdB_let h).2.2 42 (by rw [e]; exact List.mem_singleton.mpr rfl))
  omega
def figs : Str := "0123456789"
theorem figs_has {c : Nat} (h : 48 ≤ c ∧ c ≤ 57) : c ∈ figs.cps.toList := by
  have : ∀ d < 10, 48 + d ∈ figs.cps.toList := by decide +kernel
  have e := this (c - 48) (by omega)
  rw [show 48 + (c - 48) = c by omega] at e
  exact e
theorem num_figs (n : Nat) : (TL.numL n).all (fun c => decide (c ∈ figs.cps.toList)) = true := List.all_eq_true.mpr fun c hc => decide_eq_true (figs_has (TL.numL_digits n c hc))
theorem eqs_tx {a b : List Nat} : eqD2 (.str (tx a)) (.str (tx b)) = some (.bl (decide (a = b))) := by
  rw [eqs]
  congr 2
  by_cases h : a = b
  · subst h; simp
  · rw [decide_eq_false h, decide_eq_false fun e => h (tx_inj e)]
theorem nes_tx {a b : List Nat} : neD (.str (tx a)) (.str (tx b)) = some (.bl (!decide (a = b))) := by
  have e : neD (.str (tx a)) (.str (tx b)) = some (.bl (!decide (tx a = tx b))) := rfl
  rw [e]
  congr 2
  by_cases h : a = b
  · subst h; simp
  · rw [decide_eq_false h, decide_eq_false fun e => h (tx_inj e)]
/-! ## joined texts -/
theorem join_tx (s : List Nat) (ys : List (List Nat)) : Txt.join (tx s) (ys.map tx) = tx (TL.joinL s ys) := by
  rw [TL.join_eq, ← tx_tl (Str.join (tx s) (ys.map tx)), TL.tl_join, List.map_map]
  congr 2
  exact List.map_id' ys
theorem joinL_len (s : List Nat) (m : Nat) : ∀ ys : List (List Nat), (∀ y ∈ ys, y.length ≤ m) → (TL.joinL s ys).length ≤ ys.length * (m + s.length)
  | [], _ => by simp [TL.joinL]
  | [y], h => by
    have := h y List.mem_cons_self
    show y.length ≤ 1 * (m + s.length)
    omega
  | y :: z :: ys, h => by
    have a := h y List.mem_cons_self
    have ih := joinL_len s m (z :: ys) fun x hx => h x (List.mem_cons_of_mem _ hx)
    show (y ++ (s ++ TL.joinL s (z :: ys))).length ≤ _
    rw [List.length_append, List.length_append, List.length_cons, Nat.add_mul]
    omega
theorem joinL_mem {s : List Nat} {P : Nat → Prop} (hs : ∀ c ∈ s, P c) : ∀ ys : List (List Nat), (∀ y ∈ ys, ∀ c ∈ y, P c) → ∀ c ∈ TL.joinL s ys, P c
  | [], _, c, hc => by simp [TL.joinL] at hc
  | [y], h, c, hc => h y List.mem_cons_self c hc
  | y :: z :: ys, h, c, hc => by
    have hc' : c ∈ y ++ (s ++ TL.joinL s (z :: ys)) := hc
    rcases List.mem_append.mp hc' with m | m
    · exact h y List.mem_cons_self c m
    · rcases List.mem_append.mp m with m | m
      · exact hs c m
      · exact joinL_mem hs (z :: ys) (fun x hx => h x (List.mem_cons_of_mem _ hx)) c m
theorem strsD_tx (ys : List (List Nat)) : strsD (ys.map fun y => D.str (tx y)) = some (ys.map tx) := by
  have := strsD_map (ys.map tx)
  rwa [List.map_map] at this
theorem sum_le {m : Nat} : ∀ ns : List Nat, (∀ n ∈ ns, n ≤ m) → ns.sum ≤ ns.length * m
  | [], _ => by simp
  | n :: ns, h => by
    have a := h n List.mem_cons_self
    have ih := sum_le ns fun x hx => h x (List.mem_cons_of_mem _ hx)
    rw [List.sum_cons, List.length_cons, Nat.add_mul]
    omega
theorem joinD_tx {s : List Nat} {ys : List (List Nat)} {m : Nat} (h : ∀ y ∈ ys, y.length ≤ m) (hl : ys.length * (m + s.length) ≤ 16777216) : joinD (.str (tx s)) (.lst (ys.map fun y => D.str (tx y))) = some (.str (tx (TL.joinL s ys))) := by
  show ((strsD (ys.map fun y => D.str (tx y))).bind fun ys => if (ys.map (·.length)).sum + ys.length * (tx s).length ≤ 16777216 then some (D.str (Txt.join (tx s) ys)) else none) = _
  rw [strsD_tx]
  show (if ((ys.map tx).map (·.length)).sum + (ys.map tx).length * (tx s).length ≤ 16777216 then some (D.str (Txt.join (tx s) (ys.map tx))) else none) = _
  have a : ((ys.map tx).map (·.length)).sum ≤ ys.length * m := by
    have := sum_le (m := m) ((ys.map tx).map (·.length)) (fun n hn => by
      obtain ⟨z, hz, rfl⟩ := List.mem_map.mp hn
      obtain ⟨y, hy, rfl⟩ := List.mem_map.mp hz
      rw [tx_len]; exact h y hy)
    rwa [List.length_map, List.length_map] at this
  rw [Nat.mul_add] at hl
  rw [if_pos (by rw [List.length_map, tx_len]; omega), join_tx]
theorem joinD_tt {s : List Nat} {ys : List (List Nat)} {m : Nat} (h : ∀ y ∈ ys, y.length ≤ m) (hl : ys.length * (m + s.length) ≤ 16777216) : joinD (.str (tx s)) (.tup (ys.map fun y => D.str (tx y))) = some (.str (tx (TL.joinL s ys))) := joinD_tx h hl
theorem splitD_tx {s : Nat} {ys : List (List Nat)} (hs : s < 256) (hne : ys ≠ []) (hp : ∀ y ∈ ys, s ∉ y) (hl : (TL.joinL [s] ys).length + 2 ≤ sizeLine) : splitD (.str (tx (TL.joinL [s] ys))) (.str (tx [s])) = some (.lst (ys.map fun y => D.str (tx y))) := by
  show (if ((tx [s]).length == 0) = false ∧ (tx (TL.joinL [s] ys)).length + 2 ≤ sizeLine then some (D.lst ((Txt.split (tx (TL.joinL [s] ys)) (tx [s])).map D.str)) else none) = _
  rw [if_pos ⟨by rw [tx_len]; rfl, by rw [tx_len]; exact hl⟩, ← join_tx]
  rw [TL.split_join (y := tx [s]) (s := s) (S := []) rfl (by show ([s].toArray.all fun c => decide (c < 256)) = true; simp [hs]) (by simpa using hne) (fun p hp' => by
    obtain ⟨y, hy, rfl⟩ := List.mem_map.mp hp'
    exact hp y hy)]
  rw [List.map_map]
  rfl
theorem wordD_tx {l : List Nat} {n : Nat} : wordD (.str (tx l)) (n : Int) = wdB l n := by
  show (decide ((1 : Int) ≤ (tx l).length) && decide (((tx l).length : Int) ≤ n) && signsAll abc (tx l)) = _
  unfold wdB
  rw [tx_len, Bool.and_assoc]
  congr 1
  · exact decide_eq_decide.mpr (by omega)
  · congr 1
    exact decide_eq_decide.mpr (by omega)
theorem tx_wf {l : List Nat} (hl : l.length ≤ 1000) (h : ∀ c ∈ l, c < 128) : (D.str (tx l)).wf = true := by
  show (decide ((tx l).length ≤ 1000) && PyData.strOk (tx l)) = true
  rw [Bool.and_eq_true, decide_eq_true_eq, tx_len]
  refine ⟨hl, ?_⟩
  show (tx l).cps.all (· < 0x110000) = true
  rw [← Array.all_toList, List.all_eq_true]
  intro c hc
  have := h c hc
  simp; omega
/-- all signs of a text are such -/
theorem all_signs {W : Wo} {te : DT W} {ρ : Rho} {i : Nat} {l : List Nat} {z : Str} {ω : W.Om} {Q : D → W.Om → Prop} (hl : l.length ≤ 1000)
    (h : ∀ c ∈ l, ∀ (ω : W.Om) (Q : D → W.Om → Prop), Q (.bl (decide (c ∈ z.cps.toList))) ω → te (ρ.set i (some (.d (.str ⟨#[c]⟩)))) ω Q)
    (q : Q (.lst (l.map fun c => D.bl (decide (c ∈ z.cps.toList)))) ω) : lcW (setD i) dYes te ρ (signs (tx l)) [] ω Q := by
  refine lcW_map (fun d => match d with | .str y => D.bl (signsAll z y) | _ => .non) _ _ (fun y hy => ?_) (by rw [signs_len, tx_len]; exact line1000 (by simpa using hl)) ?_
  · obtain ⟨c, rfl, hc⟩ := signs_mem hy
    refine ⟨_, rfl, fun ω Q q => h c hc ω Q ?_⟩
    simpa [signsAll] using q
  · rw [List.nil_append]
    have e : (Tk.signs (tx l)).map (fun d => match d with | .str y => D.bl (signsAll z y) | _ => .non) = l.map fun c => D.bl (decide (c ∈ z.cps.toList)) := by
      unfold Tk.signs
      rw [List.map_map, tx_cps]
      refine List.map_congr_left fun c _ => ?_
      simp [signsAll]
    rw [e]
    exact q
/-- x = e, e told by what holds of it -/
theorem setI {W : Wo} {i : Nat} {te : DT W} {u : DTS W} {D0 : DEnds W} {ρ : Rho} {ω : W.Om} (I : D → W.Om → Prop) (h : ∀ Q' : D → W.Om → Prop, (∀ d ω', I d ω' → Q' d ω') → te ρ ω Q') (h2 : ∀ d ω', I d ω' → u D0 (ρ.set i (some (.d d))) ω') : dSeq (dSet i te) u D0 ρ ω := h _ h2
theorem nextI {W : Wo} {D0 : DEnds W} {ρ : Rho} {ω : W.Om} (h : D0.nx ρ ω) : dNext D0 ρ ω := h
/-! ## walks over what stands for others -/
section
variable {W : Wo} {f f1 : D → Rho → Option Rho} {tt tt1 : DB W} {te : DT W} {ti1 : DIt W} {vs1 : List Nat} {ρ : Rho}
theorem lcW2_mapf {α : Type} (h : α → D) (g : α → List D) (m : Nat) : ∀ (as : List α) (acc : List D) {ω : W.Om} {Q : D → W.Om → Prop},
    (∀ a ∈ as, ∃ ρ', f (h a) ρ = some ρ' ∧ noOwn ρ' = true ∧ (g a).length ≤ m ∧ ∀ (acc : List D) (ω : W.Om) (Q : List D → W.Om → Prop), acc.length + m ≤ sizeLine → Q (acc ++ g a) ω → ti1 ρ' ω fun items1 ω1 => lcI f1 tt1 te (wipeD ρ' vs1) items1 acc ω1 Q) →
    acc.length + as.length * m + m ≤ sizeLine → Q (.lst (acc ++ as.flatMap g)) ω → lcW2 f dYes ti1 vs1 f1 tt1 te ρ (as.map h) acc ω Q
  | [], acc, ω, Q, _, _, q => by rw [List.flatMap_nil, List.append_nil] at q; exact q
  | x :: xs, acc, ω, Q, hh, hl, q => by
    obtain ⟨ρ', e, no, lm, k⟩ := hh x List.mem_cons_self
    rw [List.length_cons, Nat.add_mul, Nat.one_mul] at hl
    refine ⟨ρ', e, no, ?_⟩
    show (if true = true then (ti1 ρ' ω fun items1 ω1 => lcI f1 tt1 te (wipeD ρ' vs1) items1 acc ω1 fun acc' ω2 => lcW2 f dYes ti1 vs1 f1 tt1 te ρ (xs.map h) acc' ω2 Q) else (lcW2 f dYes ti1 vs1 f1 tt1 te ρ (xs.map h) acc ω Q))
    rw [if_pos rfl]
    refine k acc ω _ (by omega) (lcW2_mapf h g m xs (acc ++ g x) (fun y hy => hh y (List.mem_cons_of_mem _ hy)) (by rw [List.length_append]; omega) ?_)
    rw [List.flatMap_cons] at q
    rw [List.append_assoc]
    exact q
theorem lcW_mapf {α : Type} (h : α → D) (g : α → D) : ∀ (as : List α) (acc : List D) {ω : W.Om} {Q : D → W.Om → Prop}, (∀ a ∈ as, ∃ ρ', f (h a) ρ = some ρ' ∧ ∀ (ω : W.Om) (Q : D → W.Om → Prop), Q (g a) ω → te ρ' ω Q) → acc.length + as.length ≤ sizeLine →
    Q (.lst (acc ++ as.map g)) ω → lcW f dYes te ρ (as.map h) acc ω Q
  | [], acc, ω, Q, _, _, q => by rw [List.map_nil, List.append_nil] at q; exact q
  | x :: xs, acc, ω, Q, hh, hl, q => by
    obtain ⟨ρ', e, k⟩ := hh x List.mem_cons_self
    rw [List.length_cons] at hl
    refine ⟨ρ', e, ?_⟩
    show (if true = true then (te ρ' ω fun d ω2 => acc.length < sizeLine ∧ lcW f dYes te ρ (xs.map h) (acc ++ [d]) ω2 Q) else lcW f dYes te ρ (xs.map h) acc ω Q)
    rw [if_pos rfl]
    refine k _ _ ⟨by omega, lcW_mapf h g xs (acc ++ [g x]) (fun y hy => hh y (List.mem_cons_of_mem _ hy)) (by rw [List.length_append, List.length_singleton]; omega) ?_⟩
    rw [List.append_assoc]
    exact q
/-- unlike plain things, put to a set as they are -/
theorem scW_uni {α : Type} (h : α → D) (k : α → Option Key) : ∀ (as : List α) (ks : List (Option Key)) {ω : W.Om} {Q : List (Option Key) → W.Om → Prop},
    (∀ a ∈ as, scK (h a) = some (k a) ∧ ∃ ρ', f (h a) ρ = some ρ' ∧ ∀ (ω : W.Om) (Q : D → W.Om → Prop), Q (h a) ω → te ρ' ω Q) → (ks ++ as.map k).Nodup → ks.length + as.length < scanBound →
    Q (ks ++ as.map k) ω → scW f dYes te ρ (as.map h) ks ω Q
  | [], ks, ω, Q, _, _, _, q => by rw [List.map_nil, List.append_nil] at q; exact q
  | x :: xs, ks, ω, Q, hh, nd, hl, q => by
    obtain ⟨e1, ρ', e, g⟩ := hh x List.mem_cons_self
    rw [List.length_cons] at hl
    refine ⟨ρ', e, ?_⟩
    show (if true = true then (te ρ' ω fun d ω2 => ∃ k, scK d = some k ∧ ks.length + 1 < scanBound ∧ scW f dYes te ρ (xs.map h) (addK ks k) ω2 Q) else scW f dYes te ρ (xs.map h) ks ω Q)
    rw [if_pos rfl]
    have nin : k x ∉ ks := fun m => (List.nodup_append.mp nd).2.2 (k x) m (k x) List.mem_cons_self rfl
    have ea : addK ks (k x) = ks ++ [k x] := by
      unfold addK
      rw [if_neg (fun z => nin (hasK_iff.mp z))]
    refine g _ _ ⟨k x, e1, by omega, ?_⟩
    rw [ea]
    have nd' : (ks ++ [k x] ++ xs.map k).Nodup := by rw [List.append_assoc]; exact nd
    refine scW_uni h k xs (ks ++ [k x]) (fun y hy => hh y (List.mem_cons_of_mem _ hy)) nd' (by rw [List.length_append, List.length_singleton]; omega) ?_
    rw [List.append_assoc]
    exact q
end
/-! ## tables as texts -/
def rowL (r : List D) : List Nat := TL.joinL [32] (r.map wrL)
def headL (hs : List (List Nat)) : List Nat := TL.joinL [32] hs
def linesL (hs : List (List Nat)) (rows : List (List D)) : List (List Nat) := headL hs :: rows.map rowL
def tabL (hs : List (List Nat)) (rows : List (List D)) : List Nat := TL.joinL [10] (linesL hs rows)
theorem rowL_ok {r : List D} (h : ∀ x ∈ r, cellD x = true) (hl : r.length ≤ 8) : (rowL r).length ≤ 136 ∧ ∀ c ∈ rowL r, 32 ≤ c ∧ c < 128 := by
  refine ⟨?_, joinL_mem (by decide) _ fun y hy c hc => ?_⟩
  · have := joinL_len [32] 16 (r.map wrL) fun y hy => by
      obtain ⟨x, hx, rfl⟩ := List.mem_map.mp hy
      exact (wrL_ok (h x hx)).2.1
    rw [List.length_map] at this
    have e : ([32] : List Nat).length = 1 := rfl
    rw [e] at this
    unfold rowL
    omega
  · obtain ⟨x, hx, rfl⟩ := List.mem_map.mp hy
    have := (wrL_ok (h x hx)).2.2 c hc
    omega
theorem headL_ok {hs : List (List Nat)} (h : Nms hs) (hl : hs.length ≤ 9) : (headL hs).length ≤ 136 ∧ ∀ c ∈ headL hs, 32 ≤ c ∧ c < 128 := by
  refine ⟨?_, joinL_mem (by decide) _ fun y hy c hc => ?_⟩
  · have := joinL_len [32] 8 hs fun y hy => (h.ok y hy).2.1
    have e : ([32] : List Nat).length = 1 := rfl
    rw [e] at this
    unfold headL
    omega
  · have := (h.ok y hy).2.2 c hc
    omega
theorem lines_ok {hs : List (List Nat)} {rows : List (List D)} (h : Nms hs) (hl : hs.length ≤ 8) (ok : rowsOk hs.length rows) : ∀ y ∈ linesL hs rows, y.length ≤ 136 ∧ ∀ c ∈ y, 32 ≤ c ∧ c < 128 := by
  intro y hy
  rcases List.mem_cons.mp hy with rfl | hy
  · exact headL_ok h (by omega)
  · obtain ⟨r, hr, rfl⟩ := List.mem_map.mp hy
    obtain ⟨l, o⟩ := ok r hr
    exact rowL_ok o (by omega)
theorem tabL_len {hs : List (List Nat)} {rows : List (List D)} (h : Nms hs) (hl : hs.length ≤ 8) (ok : rowsOk hs.length rows) (hr : rows.length ≤ 100) : (tabL hs rows).length ≤ 13837 := by
  have := joinL_len [10] 136 (linesL hs rows) fun y hy => (lines_ok h hl ok y hy).1
  have e : ([10] : List Nat).length = 1 := rfl
  have e2 : (linesL hs rows).length = rows.length + 1 := by unfold linesL; rw [List.length_cons, List.length_map]
  rw [e, e2] at this
  unfold tabL
  omega
theorem size_big : 16000 ≤ sizeLine := by decide
theorem split_tab {hs : List (List Nat)} {rows : List (List D)} (h : Nms hs) (hl : hs.length ≤ 8) (ok : rowsOk hs.length rows) (hr : rows.length ≤ 100) : splitD (.str (tx (tabL hs rows))) (.str (tx [10])) = some (.lst (nmD (linesL hs rows))) :=
  splitD_tx (by decide) (fun z => by cases z) (fun y hy m => by have := (lines_ok h hl ok y hy).2 10 m; omega) (by
    have a := tabL_len h hl ok hr
    have b := size_big
    unfold tabL at a
    omega)
theorem split_head {hs : List (List Nat)} (h : Nms hs) (h0 : 1 ≤ hs.length) (hl : hs.length ≤ 8) : splitD (.str (tx (headL hs))) (.str (tx [32])) = some (.lst (nmD hs)) :=
  splitD_tx (by decide) (fun z => by rw [z] at h0; exact absurd h0 (by decide)) (fun y hy m => by have := (h.ok y hy).2.2 32 m; omega) (by
    have a := (headL_ok h (by omega)).1
    have b := size_big
    unfold headL at a
    omega)
theorem split_row {r : List D} (h : ∀ x ∈ r, cellD x = true) (h0 : 1 ≤ r.length) (hl : r.length ≤ 8) : splitD (.str (tx (rowL r))) (.str (tx [32])) = some (.lst (r.map fun x => D.str (tx (wrL x)))) := by
  have := splitD_tx (s := 32) (ys := r.map wrL) (by decide) (fun z => by rw [List.map_eq_nil_iff] at z; rw [z] at h0; exact absurd h0 (by decide)) (fun y hy m => by
    obtain ⟨x, hx, rfl⟩ := List.mem_map.mp hy
    have := (wrL_ok (h x hx)).2.2 32 m
    omega) (by
    have a := (rowL_ok h hl).1
    have b := size_big
    unfold rowL at a
    omega)
  rw [List.map_map] at this
  exact this
theorem join_row {r : List D} (h : ∀ x ∈ r, cellD x = true) (hl : r.length ≤ 8) : joinD (.str (tx [32])) (.lst (r.map fun x => D.str (tx (wrL x)))) = some (.str (tx (rowL r))) := by
  have := joinD_tx (s := [32]) (ys := r.map wrL) (m := 16) (fun y hy => by
    obtain ⟨x, hx, rfl⟩ := List.mem_map.mp hy
    exact (wrL_ok (h x hx)).2.1) (by rw [List.length_map]; exact Nat.le_trans (Nat.mul_le_mul_right _ hl) (by decide))
  rw [List.map_map] at this
  exact this
theorem join_head {hs : List (List Nat)} (h : Nms hs) (hl : hs.length ≤ 8) : joinD (.str (tx [32])) (.tup (nmD hs)) = some (.str (tx (headL hs))) :=
  joinD_tt (m := 8) (fun y hy => (h.ok y hy).2.1) (Nat.le_trans (Nat.mul_le_mul_right _ hl) (by decide))
theorem join_tab {hs : List (List Nat)} {rows : List (List D)} (h : Nms hs) (hl : hs.length ≤ 8) (ok : rowsOk hs.length rows) (hr : rows.length ≤ 100) : joinD (.str (tx [10])) (.lst (nmD (linesL hs rows))) = some (.str (tx (tabL hs rows))) :=
  joinD_tx (m := 136) (fun y hy => (lines_ok h hl ok y hy).1) (by
    have e2 : (linesL hs rows).length = rows.length + 1 := by unfold linesL; rw [List.length_cons, List.length_map]
    rw [e2]
    exact Nat.le_trans (Nat.mul_le_mul_right _ (show rows.length + 1 ≤ 101 by omega)) (by decide))
theorem nm_keys {hs : List (List Nat)} (h : hs.Nodup) : (hs.map fun y => (some (.inr (tx y)) : Option Key)).Nodup := by
  rw [List.nodup_iff_pairwise_ne, List.pairwise_map]
  refine List.Pairwise.imp (fun {a b} ne e => ne ?_) h
  exact tx_inj (Sum.inr.inj (Option.some.inj e))
theorem flat_one {α : Type} : ∀ r : List α, r.flatMap (fun x => [x]) = r
  | [] => rfl
  | x :: r => by rw [List.flatMap_cons, flat_one r]; rfl
section
variable {X : Cx} {W : Wo} {pos : Pos}
/-- x = [e for x in xs if t for y in ys if u] on one line -/
theorem ds_ownLc2 {cl : Bool} {i : Nat} {y : Str} {py spos : Pos} {elt tg iter tg1 iter1 : Expr} {ifs ifs1 : List Expr} {scope : Scope} {own : List (Str × Nat)} {vs1 : List Nat} {ti ti1 : DIt W} {g g1 : TG} {f f1 : D → Rho → Option Rho} {tt tt1 : DB W} {te : DT W}
    (hc : X.calm = true) (hN : X.N.Nodup) (hy : X.N[i]? = some y) (hyl : X.env.scope.names.lookup y = some .local)
    (hsw : swapsWith (.ListComp elt [⟨tg, iter, ifs, 0⟩, ⟨tg1, iter1, ifs1, 0⟩] scope pos) (some (.Name y py)) spos.line X.env = pure true) (hi : DI cl X W tg iter ti) (ok : BlkOk X.N X.env.scope scope own)
    (hv : ∀ i ∈ vs1, i ∈ own.map (·.2)) (G : Gf g (own.map (·.2)) f) (G1 : Gf g1 vs1 f1) (hg : ∀ (s : Shared) (H : Hp) (C : Addr) (cl : List (Str × Addr)) (fp : List Addr), PG (X.blk s H scope (compEnvC scope cl C X.env) fp) tg g)
    (hg1 : ∀ (s : Shared) (H : Hp) (C : Addr) (cl : List (Str × Addr)) (fp : List Addr), PG (X.blk s H scope (compEnvC scope cl C X.env) fp) tg1 g1)
    (ht : ∃ tt', (∀ (s : Shared) (H : Hp) (C : Addr) (cl : List (Str × Addr)) (fp : List Addr), PTs (X.blk s H scope (compEnvC scope cl C X.env) fp) ifs tt') ∧ RunT W tt' tt)
    (ht1 : ∃ tt', (∀ (s : Shared) (H : Hp) (C : Addr) (cl : List (Str × Addr)) (fp : List Addr), PTs (X.blk s H scope (compEnvC scope cl C X.env) fp) ifs1 tt') ∧ RunT W tt' tt1)
    (hi1 : ∃ wi1, (∀ (s : Shared) (H : Hp) (C : Addr) (cl : List (Str × Addr)) (fp : List Addr), PI (X.blk s H scope (compEnvC scope cl C X.env) fp) tg1 iter1 wi1) ∧ RunI W wi1 ti1)
    (he : ∀ (s : Shared) (H : Hp) (C : Addr) (cl : List (Str × Addr)) (fp : List Addr), DE (X.blk s H scope (compEnvC scope cl C X.env) fp) W elt te) (hs : ∀ x, foldedSetIterable iter X.env x = pure x := by intro _; rfl) (hs1 : ∀ env x, foldedSetIterable iter1 env x = pure x := by intro _ _; rfl) :
    DS X W (.Assign [.Name y py] (.ListComp elt [⟨tg, iter, ifs, 0⟩, ⟨tg1, iter1, ifs1, 0⟩] scope pos) spos) (dOwn i (fLc2 ti (own.map (·.2)) f tt ti1 vs1 f1 tt1 te)) := by
  obtain ⟨wi, h1, h2⟩ := hi
  obtain ⟨tt', t1, t2⟩ := ht
  obtain ⟨tt1', t3, t4⟩ := ht1
  obtain ⟨wi1, i1, i2⟩ := hi1
  refine DS.of (ps_setLc2 hc hN hy hyl hsw h1 ok hv hg t1 i1 hg1 t3 (fun s H C cl fp => (he s H C cl fp).pe) hs hs1) fun B Ex ρ ω σ H D0 rep q => h2 B Ex ρ ω σ H _ _ rep q fun items ω1 J H1 S q1 k1 w1 hm _ wk D hD => ?_
  refine lc2_run rep k1 w1 hm wk hD G G1 t2 t4 i2 (fun B Ex ρ ω σ H Q Q' rep q f => ⟨B, Ex, ρ, ω, Q, rep, q, f⟩) q1 fun acc ds ω' H' ⟨ds', e, q'⟩ k' w' hd dl => ?_
  cases e
  exact own_end rep ⟨D, .own ds, ω', rfl, k1.back w1 hD, k', w', rfl, ⟨.inr rfl, acc, hd, dl⟩, q'⟩
end
section
variable {X : Cx} {W : Wo} {a b : Expr} {pos : Pos} {ta tb : DT W} {C : Addr}
/-- x == y as a test, x an object of the class at C -/
theorem dp_eqJ {k : Nat} {f : Addr} {fd : FuncData} {ps : List Str} {S : Spd W} (F : FnG X.prog X.w X.K X.mg X.base CX0 k f fd ps (spOf W S)) (g : Gd X.A) (hu : X.A.units + 64 < cLine) (hr : Room k X.A)
    (c : Cls X.K C) (ic : IsC X.K C) (nb : NotB X.K C) (hm : Meth X.K C "__eq__" f) (hb : Binds X.K fd ps []) (ha : DE X W a ta) (hb' : DE X W b tb) (hmk : behindInMarks .Eq b = false) : DP X W (.Compare a [.Eq] [b] pos) (dTst (dEqJ C S ta tb)) :=
  DP.of (pt_cmpR (op_eqJ c hm F g (by omega) hr hb pass0) ha.pe hb'.pe hmk) fun B Ex ρ ω σ H Q rep q => two (R := Cl) (S := Cl) rep q fun x y dx dy H2 ω2 k rp zx zy ⟨⟨ns, ds, e⟩, e2, q2⟩ => by
    obtain ⟨t, e2⟩ := Option.isSome_iff_exists.mp e2
    subst e
    obtain ⟨p, px, vs, rfl, h1, h2, h3, h4⟩ := (Bq.of (W := W) zx).ofJ
    refine ⟨p, px, _, t, rfl, h1, tyC_ok c ic (Bq.of (W := W) zy) e2, tyC_nf nb e2, Ex, ω2, _, fun d ω' => ∃ b, d = .bl b ∧ Q b ω', rp.wo, fun _ m => rp.muEx m, rp.tr, .cons zx (.cons zy .nil), q2, fun d ω3 v H3 ⟨b, e, q3⟩ k3 w3 z3 => ?_⟩
    subst e
    cases z3
    exact ⟨b, rfl, ω3, k.trans k3, w3, q3⟩
end
end Tk

namespace Tk
open PySem PySem.Spec PyProof.Rows L2

/-! ## worlds with a bond -/
structure Bond where
  p : Bs → (Addr → Prop) → Hp → Prop
  st : ∀ {B : Bs} {Ex Ex' : Addr → Prop} {H H' : Hp}, p B Ex H → Stp Ex H Ex' H' → p B Ex' H'
/-- the run that began at B, and what was done since the state Ex, H -/
def bondAt (B : Bs) (Ex : Addr → Prop) (H : Hp) : Bond := ⟨fun B' Ex' H' => B' = B ∧ Stp Ex H Ex' H', fun h s => ⟨h.1, h.2.trans s⟩⟩
@[reducible] def Wo.wb (W : Wo) (b : Bond) : Wo where
  Om := W.Om
  Mu := W.Mu
  ok := W.ok
  grow := W.grow
  less := W.less
  trk := W.trk
  bb := fun B Ex H => W.bb B Ex H ∧ b.p B Ex H
  bbs := fun h s => ⟨W.bbs h.1 s, b.st h.2 s⟩
section
variable {W : Wo} {B : Bs} {Ex : Addr → Prop} {H : Hp} {σ : List (Option V)} {ρ : Rho} {ω : W.Om}
theorem Rep.bond (R : Rep W B Ex H σ ρ ω) {b : Bond} (h : b.p B Ex H) : Rep (W.wb b) B Ex H σ ρ ω :=
  ⟨R.wo, R.mu, R.sub, R.out, R.tr0, R.tr, R.kp, R.len, R.sl, R.dis, R.ofr, ⟨R.bb, h⟩⟩
theorem Rep.unbond {b : Bond} {ω : (W.wb b).Om} (R : Rep (W.wb b) B Ex H σ ρ ω) : Rep W B Ex H σ ρ ω ∧ b.p B Ex H :=
  ⟨⟨R.wo, R.mu, R.sub, R.out, R.tr0, R.tr, R.kp, R.len, R.sl, R.dis, R.ofr, R.bb.1⟩, R.bb.2⟩
end
section
variable {P : Program} {w : World} {K : PySem.W.Frag} {mg : Str → Option Value} {base : Heap} {CX : CXT} {k : Nat} {f : Addr} {fd : FuncData} {ps : List Str} {W : Wo}
theorem FnG.wb {S : Spd W} (F : FnG P w K mg base CX k f fd ps (spOf W S)) (b : Bond) : FnG P w K mg base CX k f fd ps (spOf (W.wb b) S) := F
theorem FnG.wbI {C : Addr} {S : SpI W} (F : FnG P w K mg base CX k f fd ps (spI W C S)) (b : Bond) : FnG P w K mg base CX k f fd ps (spI (W.wb b) C S) := F
theorem FnG.wbF {S : SpF W} (F : FnG P w K mg base CX k f fd ps (spF W S)) (b : Bond) : FnG P w K mg base CX k f fd ps (spF (W.wb b) S) := F
end

/-! ## what is wished of an exception, as data -/
abbrev XQ (W : Wo) := Addr → List Str → List D → Rho → W.Om → Prop
def wD (W : Wo) (q : XQ W) : WX := fun cls d σ H => ∃ (B : Bs) (Ex : Addr → Prop) (C dd : Addr) (ns : List Str) (vs : List V) (ds : List D) (ρ : Rho) (ω : W.Om),
  cls = .ref C ∧ d = some dd ∧ H dd = some (.xd (ns.zip vs)) ∧ vs.length = ns.length ∧ ¬ Ex dd ∧ DqL H Ex vs ds ∧ Rep W B Ex H σ ρ ω ∧ q C ns ds ρ ω
theorem wD_imp {W : Wo} {q q' : XQ W} (h : ∀ C ns ds ρ ω, q C ns ds ρ ω → q' C ns ds ρ ω) : ∀ c d σ H, wD W q c d σ H → wD W q' c d σ H := fun _ _ _ _ ⟨B, Ex, C, dd, ns, vs, ds, ρ, ω, a1, a2, a3, a4, a5, a6, a7, a8⟩ =>
  ⟨B, Ex, C, dd, ns, vs, ds, ρ, ω, a1, a2, a3, a4, a5, a6, a7, h _ _ _ _ _ a8⟩

/-! ## calls that may raise -/
section
variable {X : Cx} {k : Nat} {f C : Addr} {fd : FuncData} {ps : List Str} {sp : Sp} {dvs : List V} {ds : List Value} {x : Str} {p pos apos : Pos} {e o : Expr} {es : List Expr} {t : TA} {Wq : WX}
theorem goFnX {pins : List (Addr × Obj)} {σ : List (Option V)} {H : Hp} {s : Shared} {Q : VK} {us : List Value} {vs : List V} (F : FnG X.prog X.w X.K X.mg X.base (L2.CX X.prog X.w) k f fd ps sp) (g : Gd X.A) (hr : Room k X.A)
    (hb : Binds X.K fd ps ds) (hd : Vals dvs ds) (tk : Takes X Wq) (I : Inv X pins σ H s) (r : Vals vs us) (q : sp (vs ++ dvs) H Q (fun cls d H' => Wq cls d σ H')) :
    wpAny (model X.prog X.w) X.A (call (.ref f) us) (EP X pins σ Q) X.xe s := by
  have both : Vals (vs ++ dvs) (us ++ ds) := r.append hd
  have many : (us ++ ds).length = ps.length := both.length ▸ F.len _ _ _ _ q
  have go := F.run X.A X.stack s H ⟨us, []⟩ (us ++ ds) (vs ++ dvs) Q _ g hr I.env0 (hb s us I.kIn many) both q
  refine wpAny_call (codeAny_mono go ?_)
  intro res s' done
  match res, done with
  | .error e, done => exact tk e s' (XE.of_call I (fun _ _ _ h => h) done)
  | .ok (.ret u), done => exact I.after done
  | .ok .next, done => exact done.elim
  | .ok .brk, done => exact done.elim
  | .ok .cont, done => exact done.elim
def tCallX (Wq : WX) (sp : Sp) (dvs : List V) (t : TA) : TE := fun σ H Q => t σ H fun vs H1 => sp (vs ++ dvs) H1 Q (fun cls d H' => Wq cls d σ H')
theorem pe_clX (F : FnG X.prog X.w X.K X.mg X.base (L2.CX X.prog X.w) k f fd ps sp) (g : Gd X.A) (hr : Room k X.A)
    (hg : Gl X x) (hm : X.mg x = some (.ref f)) (hk : PySem.W.keepIn X.K (.ref f) = true)
    (hb : Binds X.K fd ps ds) (hd : Vals dvs ds) (tk : Takes X Wq) (ha : PA X (e :: es) t)
    (hdb : (x == ("__debug__" : Str)) = false := by decide)
    (he : starEach (e :: es) X.env = (false, eval e X.env) :: starEach es X.env := by rfl)
    (hpl : (backTo pos (starEach es X.env)).any (·.1) = false := by rfl) :
    PE X (.Call (.Name x p) (e :: es) [] pos) (tCallX Wq sp dvs t) :=
  ⟨fun pins s σ H Q I h => wpAny_Call_Name_kw (ld_glob I hg hm
    (PySem.W.callWith_K (h₀ := X.base) I.ok.mod.kin hk
      (thn (ha.run pos pins s σ H _ I h) fun us s1 ⟨vs, H1, I1, r, q⟩ =>
        ⟨I1.kIn, goFnX F g hr hb hd tk I1 r q⟩) he hpl) hdb)⟩
end
/-- a def's promise over data, exceptions too -/
abbrev Spx (W : Wo) := List D → W.Om → (D → W.Om → Prop) → (Addr → List Str → List D → W.Om → Prop) → Prop
def spX (W : Wo) (S : Spx W) : Sp := fun vs H Q E => ∃ (Ex : Addr → Prop) (ω : W.Om) (ds : List D) (Q0 : D → W.Om → Prop) (X0 : Addr → List Str → List D → W.Om → Prop), W.at Ex ω H ∧ (∀ a, W.Mu a → Ex a) ∧ (∀ a, Ex a → H a ≠ none) ∧ DqL H Ex vs ds ∧ S ds ω Q0 X0 ∧
  (∀ d ω' v H', Q0 d ω' → Kp W H H' → W.at Ex ω' H' → Dq H' Ex v d → Q v H') ∧
  ∀ C ns ds' ω' dd vs' H', X0 C ns ds' ω' → Kp W H H' → W.at Ex ω' H' → H' dd = some (.xd (ns.zip vs')) → vs'.length = ns.length → ¬ Ex dd → DqL H' Ex vs' ds' → E (.ref C) (some dd) H'
theorem FnG.wbX {P : Program} {w : World} {K : PySem.W.Frag} {mg : Str → Option Value} {base : Heap} {CX : CXT} {k : Nat} {f : Addr} {fd : FuncData} {ps : List Str} {W : Wo} {S : Spx W} (F : FnG P w K mg base CX k f fd ps (spX W S)) (b : Bond) : FnG P w K mg base CX k f fd ps (spX (W.wb b) S) := F
theorem FnG.impX {P : Program} {w : World} {K : PySem.W.Frag} {mg : Str → Option Value} {base : Heap} {CX : CXT} {k : Nat} {f : Addr} {fd : FuncData} {ps : List Str} {W : Wo} {S S' : Spx W} (F : FnG P w K mg base CX k f fd ps (spX W S)) (h : ∀ ds ω Q X0, S' ds ω Q X0 → S ds ω Q X0) : FnG P w K mg base CX k f fd ps (spX W S') :=
  F.imp fun vs H Q E ⟨Ex, ω, ds, Q0, X0, a, b, c, d, e, r⟩ => ⟨Ex, ω, ds, Q0, X0, a, b, c, d, h _ _ _ _ e, r⟩
section
variable {X : Cx} {W : Wo} {e : Expr} {es : List Expr} {pos : Pos} {ta : DT W} {tl : DA W} {q : XQ W}
def dCallX {W : Wo} (S : Spx W) (q : XQ W) (dvs : List D) (tl : DA W) : DT W := fun ρ ω Q => tl ρ ω fun ds ω1 => S (ds ++ dvs) ω1 Q fun C ns ds' ω2 => q C ns ds' ρ ω2
theorem de_clX {k : Nat} {f : Addr} {fd : FuncData} {ps : List Str} {S : Spx W} {dvs : List V} {dds : List D} {dus : List Value} {x : Str} {p : Pos} (F : FnG X.prog X.w X.K X.mg X.base (L2.CX X.prog X.w) k f fd ps (spX W S)) (g : Gd X.A) (hr : Room k X.A)
    (hg : Gl X x) (hm : X.mg x = some (.ref f)) (hk : PySem.W.keepIn X.K (.ref f) = true) (hb : Binds X.K fd ps dus) (hd : Vals dvs dus) (hf : Paired Flat dvs dds) (tk : Takes X (wD W q)) (ha : DL X W (e :: es) tl)
    (hdb : (x == ("__debug__" : Str)) = false := by decide) (he : starEach (e :: es) X.env = (false, eval e X.env) :: starEach es X.env := by rfl) (hpl : (backTo pos (starEach es X.env)).any (·.1) = false := by rfl) :
    DE X W (.Call (.Name x p) (e :: es) [] pos) (dCallX S q dds tl) :=
  DX.of (pe_clX F g hr hg hm hk hb hd tk ha.pa hdb he hpl) fun B Ex ρ ω σ H Q rep q0 => ⟨B, Ex, ρ, ω, _, rep, q0, fun ds ω1 vs H1 q1 k1 w1 z1 =>
    ⟨Ex, ω1, ds ++ dds, Q, _, w1, fun _ m => rep.muEx m, (rep.go k1 w1).tr, z1.append (flats hf), q1, fun d ω2 v H2 q2 k2 w2 z2 => ⟨d, ω2, k1.trans k2, w2, z2, q2⟩,
      fun C ns ds' ω2 dd vs' H2 q2 k2 w2 hx hl nE dl => ⟨B, Ex, C, dd, ns, vs', ds', ρ, ω2, rfl, rfl, hx, hl, nE, dl, (rep.go k1 w1).go k2 w2, q2⟩⟩⟩
end

/-! ## raise C(e), C's own __init__ keeping one field -/
/-- what such an __init__ does -/
def spXI (C : Addr) (f : Str) : Sp := fun vs H Q _ => ∃ (a : Addr) (y : V), vs = [.ref a, y] ∧ H a = some (exo a C none) ∧ ∀ dx, H dx = none → dx ≠ a → Q .non (upd (upd H dx (exd dx [(f, y)])) a (exo a C (some dx)))
/-- a class of such exceptions -/
structure Xcl (P : Program) (w : World) (K : PySem.W.Frag) (mg : Str → Option Value) (base : Heap) (x : Str) (C : Addr) (f : Str) : Prop where
  m : mg x = some (.ref C)
  T : OexC K C
  ini : ∃ (fI : Addr) (fd : FuncData) (ps : List Str), PySem.W.findIn K (.ref C) "__init__" = some (some (.ref fI)) ∧ PySem.W.typeIn K (.ref fI) = some (.type "function") ∧ Binds K fd ps [] ∧ FnOk P w K mg base (L2.CX P w) 1 fI fd ps (spXI C f)
section
variable {X : Cx} {W : Wo} {e : Expr} {pos : Pos} {te : DT W} {q : XQ W}
def dRaise {W : Wo} (q : XQ W) (C : Addr) (f : Str) (te : DT W) : DTS W := fun _ ρ ω => te ρ ω fun d ω1 => q C [f] [d] ρ ω1
theorem ds_raise {x f : Str} {C : Addr} {p p' : Pos} (hc : X.calm = true) (M : Xcl X.prog X.w X.K X.mg X.base x C f) (hr : Room 2 X.A) (tk : Takes X (wD W q)) (hg : Gl X x) (h : DE X W e te)
    (hdb : (x == ("__debug__" : Str)) = false := by decide) (he : starEach [e] X.env = (false, eval e X.env) :: starEach [] X.env := by rfl) (hpl : (backTo pos (starEach [] X.env)).any (·.1) = false := by rfl) :
    DS X W (.Raise (some (.Call (.Name x p) [e] [] pos)) none p') (dRaise q C f te) := by
  obtain ⟨fI, fd, ps, iC, tI, hb, F1⟩ := M.ini
  refine DS.of (ps_raise hc tk (pmk_oex (dvs := []) M.T iC tI F1 hr hb .nil passL hg M.m (pa_cons h.pe pa_nil he) hdb he hpl)) fun B Ex ρ ω σ H D0 rep q0 => ?_
  refine ⟨B, Ex, ρ, ω, _, rep, q0, fun d ω1 v H1 q1 k1 w1 z1 => ?_⟩
  refine ⟨by simp, fun a n => ?_⟩
  refine ⟨a, v, rfl, upd_same, fun dx hx na => ⟨rfl, dx, [(f, v)], upd_same, by rw [upd_ne na, upd_same], ?_, ?_⟩⟩
  · rw [upd_ne na] at hx
    exact hx
  · have hx' : H1 dx = none := by rw [upd_ne na] at hx; exact hx
    have e1 : upd (del (upd (upd (upd H1 a (exo a C none)) dx (exd dx [(f, v)])) a (exo a C (some dx))) a) dx (.xd [(f, v)]) = upd H1 dx (.xd [(f, v)]) := by
      funext b
      by_cases hb : b = dx
      · subst hb; rw [upd_same, upd_same]
      · rw [upd_ne hb, upd_ne hb]
        by_cases ha : b = a
        · subst ha; rw [del_same]; exact n.symm
        · rw [del_ne ha, upd_ne ha, upd_ne hb, upd_ne ha]
    rw [e1]
    have sm := same_upd (o := HO.xd [(f, v)]) hx'
    exact ⟨B, Ex, C, dx, [f], [v], [d], ρ, ω1, rfl, rfl, upd_same, rfl, (rep.go k1 w1).new hx', .cons (z1.same sm) .nil, (rep.go k1 w1).grow sm, q1⟩
end

/-! ## a def that may raise -/
theorem okX {P : Program} {w : World} {K : PySem.W.Frag} {mg : Str → Option Value} {base : Heap} {W : Wo} [Free W] {x qual : Str} {st : Stmt} {f : Addr} {fd : FuncData} {N ps : List Str} {k : Nat} {S : Spx W} (F : Fun K x qual st f fd) (C : FnScope N ps (defScope st))
    (len : ∀ ds ω Q X0, S ds ω Q X0 → ds.length = ps.length)
    (hbody : ∀ (cdv : Value) (A : Around) (outer : List Env) (s : Shared) (H : Hp) (E : XK) (ds : List D) (ω : W.Om) (Q : D → W.Om → Prop) (X0 : Addr → List Str → List D → W.Om → Prop) (b : Bond), Gd A → Room k (A.deeper (envOfC qual (defScope st) s.heap.objs.size f cdv)) → S ds ω Q X0 →
      Takes (cxOf (L2.CX P w) P w K mg base N qual (defScope st) f cdv A outer s H E) (wD (W.wb b) fun C ns ds' _ ω' => X0 C ns ds' ω') →
      PassesOwn (model P w) (A.deeper (envOfC qual (defScope st) s.heap.objs.size f cdv)) (envOfC qual (defScope st) s.heap.objs.size f cdv) (cxOf (L2.CX P w) P w K mg base N qual (defScope st) f cdv A outer s H E).xe →
      ∃ t : DTS (W.wb b), DSs (cxOf (L2.CX P w) P w K mg base N qual (defScope st) f cdv A outer s H E) (W.wb b) (defBody st) t ∧ t { nx := fun _ ω' => Q .non ω', rt := Q } (startD N ds) ω) :
    FnG P w K mg base (L2.CX P w) (k + 1) f fd ps (spX W S) := by
  obtain ⟨oc, od, kV, doc, pm, an, cdv, ct, osl, e, lk, hcd⟩ := F.ex
  subst e
  refine fnG_of lk hcd C (fun vs H Q E ⟨Ex, ω, ds, Q0, X0, _, _, _, q, h, _⟩ => by rw [q.length]; exact len _ _ _ _ h) fun A outer s H vs Q E g hr ⟨Ex, ω, ds, Q0, X0, wo, mu, tr, q, h, fin, finX⟩ => ?_
  have tk : Takes (cxOf (L2.CX P w) P w K mg base N qual (defScope st) f cdv A outer s H E) (wD (W.wb (bondAt ⟨H, Ex⟩ Ex H)) fun C ns ds' _ ω' => X0 C ns ds' ω') := by
    refine Takes.imp (takes_of (E := E) rfl rfl rfl rfl) fun c d σ H' ⟨B, Ex', C, dd, ns, vs', ds', ρ, ω', a1, a2, a3, a4, a5, a6, a7, a8⟩ => ?_
    obtain ⟨R, hB, s1⟩ := a7.unbond
    subst a1 a2 hB
    exact finX C ns ds' ω' dd vs' H' a8 R.kp (W.le R.wo fun b m => .inl (R.sub b m)) a3 a4 (fun m => a5 (R.sub _ m)) (a6.to fun a o e n => ⟨e, fun m => n (R.sub a m)⟩)
  obtain ⟨t, h1, h2⟩ := hbody cdv A outer s H E ds ω Q0 X0 (bondAt ⟨H, Ex⟩ Ex H) g hr h tk (passes_of rfl)
  refine ⟨_, h1.pss, ⟨H, Ex⟩, Ex, _, ω, _, (rep_start wo mu tr q (Free.bb _ _ _)).bond ⟨rfl, Stp.refl⟩, h2, ⟨fun σ' H' ⟨Ex', ρ', ω', s, r, z⟩ => ?_, fun v H' ⟨d, ω', k, w, z, q'⟩ => fin d ω' v H' q' k w z, fun σ' H' ⟨_, _, _, _, _, z⟩ => z.elim, fun σ' H' ⟨_, _, _, _, _, z⟩ => z.elim⟩⟩
  exact fin .non ω' .non H' z r.kp (W.le r.wo fun b m => .inl (r.sub b m)) .non
end Tk

namespace Tk
open PySem PySem.Spec PyProof.Rows L2

/-! ## what is there is told from now on -/
theorem xcH_own {C d a x : Addr} : xcH C d a ≠ .own x := fun z => by
  have z' : HO.ext _ = HO.own x := z
  cases z'
section
variable {X : Cx} {pins : List (Addr × Obj)} {σ : List (Option V)} {H : Hp} {s : Shared}
theorem Inv.track (I : Inv X pins σ H s) {a : Addr} {o : HO} {oe : Obj} {vs : Array Value} (ha : s.heap.get? a = some oe) (hd : oe.data = .fields vs) (na : H a = none) (n0 : X.s_0.heap.get? a = none) (nL : a ≠ X.env.locals)
    (np : ∀ p ∈ X.pn ++ pins, p.1 ≠ a) (ho : ObjOk X.prog X.w (upd H a o) s.heap a o) : Inv X pins σ (upd H a o) s := by
  have sm : ∀ {b : Addr} {u : HO}, H b = some u → upd H a o b = some u := fun {b u} e => by rw [upd_ne (ne_of_none e na)]; exact e
  have nn : ∀ {b : Addr}, b ≠ a → H b = none → upd H a o b = none := fun {b} h e => by rw [upd_ne h]; exact e
  refine ⟨I.ok, I.os, I.bare, ⟨I.base.keep, I.base.slot, fun b o' e n hx => nn (fun z => ?_) (I.base.free b o' e n hx), I.base.there, fun b xs e => sm (I.base.tups b xs e), fun b u xs e => sm (I.base.frzs b u xs e), fun b ps e => ?_⟩, I.loc, I.cell, nn (Ne.symm nL) I.free, fun y c e => nn (fun z => ?_) (I.freeC y c e), fun p hp => ?_, fun b u e => ?_, I.len⟩
  · rw [z, n0] at e; cases e
  · obtain ⟨more, q⟩ := I.base.tbls b ps e
    exact ⟨more, sm q⟩
  · obtain ⟨v, ob, hc, hdc⟩ := I.cell y c e
    rw [z, ha] at hc
    cases hc
    rw [hd] at hdc
    cases hdc
  · obtain ⟨h1, h2, h3, h4, h5⟩ := I.pin p hp
    exact ⟨h1, nn (np p hp) h2, h3, h4, h5⟩
  · by_cases hb : b = a
    · subst hb
      rw [upd_same] at e
      cases e
      exact ho
    · rw [upd_ne hb] at e
      exact (I.hok b u e).stay (fun _ _ _ q => q) (fun c q => sm q) fun c xs q => sm q
end
theorem xcH_ok {P : Program} {w : World} {H : Hp} {h : Heap} {C dd a : Addr} {oe : Obj} {vs : Array Value} (ha : h.get? a = some oe) (h1 : oe.cls = .ref C) (h2 : oe.dict = some dd) (h3 : oe.data = .fields vs) : ObjOk P w H h a (xcH C dd a) :=
  ⟨⟨oe, vs, ha, h1, h2, h3⟩, ⟨oe, ha⟩, fun _ _ ⟨oe, vs, ha, h1, h2, h3⟩ k => ⟨oe, vs, k _ ha, h1, h2, h3⟩⟩
theorem xcH_at {P : Program} {w : World} {H : Hp} {h : Heap} {C dd a : Addr} (hok : HOk P w H h) (e : H a = some (xcH C dd a)) : ∃ (oe : Obj) (vs : Array Value), h.get? a = some oe ∧ oe.cls = .ref C ∧ oe.dict = some dd ∧ oe.data = .fields vs := by
  have x : ObjOk P w H h a (.ext fun h => ∃ (oe : Obj) (vs : Array Value), h.get? a = some oe ∧ oe.cls = .ref C ∧ oe.dict = some dd ∧ oe.data = .fields vs) := hok a _ e
  exact x.1

/-! ## try: body / except x as n: suite, the exception told from then on -/
def wAsX (K : PySem.W.Frag) (c : Value) (i : Nat) (ts : TS) (Wout : WX) (D : Ends) : WX := fun cls d σ H =>
  ∃ b, PySem.W.exmOne K cls c = some b ∧ (b = true → ∀ a, H a = none → ∃ C dd, cls = .ref C ∧ d = some dd ∧ ts { nx := fun σ' H' => D.nx (σ'.set i none) H', rt := D.rt, bk := fun σ' H' => D.bk (σ'.set i none) H', ct := fun σ' H' => D.ct (σ'.set i none) H' } (σ.set i (some (.ref a))) (upd H a (xcH C dd a))) ∧
    (b = false → Wout cls d σ H)
section
variable {X : Cx} {x n : Str} {c : Value} {i : Nat} {body suite : List Stmt} {b₀ : Stmt} {np pos pos' : Pos} {tb : WX → TS} {ts : TS} {Wout : WX}
theorem ps_tryX (hs : X.stack = X.env :: X.outer) (hf : X.env.frame = some X.env.locals) (hN : X.N.Nodup) (hi : X.N[i]? = some n) (hln : X.env.kindOf n = some .local) (hc : Names X x c) (tk : Takes X Wout)
    (hex : X.ex = []) (hpn : X.pn = [])
    (hb : ∀ (W : WX) (pn : List (Addr × Obj)) (xe : Value → Shared → Prop), Takes (X.tr pn xe) W → PassesOwn (model X.prog X.w) X.A X.env xe → PSs (X.tr pn xe) body (tb W))
    (hsu : ∀ (a : Addr) (pn : List (Addr × Obj)), PSs (X.suite a pn) (b₀ :: suite) ts) :
    PS X (.Try body [.ExceptHandler (some (.Name x np)) (some n) (b₀ :: suite) pos'] [] [] pos) (fun D σ H => tb (wAsX X.K c i ts Wout D) D σ H) := by
  refine ⟨fun pins s σ H D I h => ?_⟩
  have ok := I.ok
  have hfr : X.A.frames = some (X.env :: X.outer) := by rw [ok.frames, hs]
  have hloc : Loc X.env.scope n := .inl hln
  refine wpAny_Try_except ?_
  refine wpAny_mono ((hb (wAsX X.K c i ts Wout D) (X.pn ++ pins) (fun e s₁ => wpAny (model X.prog X.w) X.A (noteFrame e X.env) (fun _ s₂ => wpAny (model X.prog X.w) X.A (setFlight e none) (fun _ s₃ =>
    wpAny (model X.prog X.w) X.A (handleBy e X.env [.ExceptHandler (some (.Name x np)) (some n) (b₀ :: suite) pos']) (SP X pins D) X.xe s₃) X.xe s₂) X.xe s₁) (fun u s' xx => ?_) PassesOwn.looking).run [] s σ H D (I.toTry _) h) (fun f s1 hsp => ?_) (fun e s1 he => he)
  · obtain ⟨a, B, sI, pins', σ', H', cls, d, rfl, J', nb, up, sky, na, os, ag, b, hb1, hyes, hno⟩ := xx
    have J : Inv X pins σ' H' sI := J'.ofTry ok
    have sky' : Sky B (X.env :: X.outer) a (Zc cls d) X.env.locals s'.heap := by rw [← hs]; exact sky
    show wpAny (model X.prog X.w) X.A (noteFrame (.ref a) X.env) _ _ _
    refine Sky.land Zc.steady hfr hf sky' fun h3 fl3 up3 => ?_
    have J3 : Inv X pins σ' H' { s' with heap := h3 } := J.landed nb fl3.1 (up.trans up3) os ag
    obtain ⟨oe3, vs3, he3, hz3, hd3⟩ := fl3.there
    have notFr : ∀ {h : Heap} {o : Obj} {vs : Array Value}, h.FunFrames B (X.env :: X.outer) → h.get? a = some o → o.data = .fields vs → a ∉ frs (X.env :: X.outer) := fun {h o vs} ff e dd hm => by
      obtain ⟨_, o', e', hnf⟩ := ff.mem hm
      rw [e] at e'; cases e'
      exact hnf _ dd
    have nfr := notFr fl3.2.2.1 he3 hd3
    have nL : a ≠ X.env.locals := fun z => nfr (List.mem_filterMap.mpr ⟨X.env, List.mem_cons_self, by rw [hf, z]⟩)
    have nF : a ∉ X.fs := fun hm => by
      obtain ⟨e, he, q⟩ := List.mem_filterMap.mp hm
      exact nfr (List.mem_filterMap.mpr ⟨e, List.mem_cons_of_mem _ he, q⟩)
    have aB : B.get? a = none := fl3.2.1
    have nI : sI.heap.get? a = none := by
      cases e : sI.heap.get? a with
      | none => rfl
      | some o =>
        have z := nb a o e (by rw [hs]; exact nfr)
        rw [aB] at z; cases z
    have n0 : X.s_0.heap.get? a = none := by
      cases e : X.s_0.heap.get? a with
      | none => rfl
      | some o =>
        obtain ⟨o', z⟩ := J.base.there a o e (by rw [hex]; simp)
        rw [nI] at z; cases z
    have np' : ∀ p ∈ X.pn ++ pins, p.1 ≠ a := fun p hp z => by
      have q := (J.pin p hp).1
      rw [z, nI] at q; cases q
    have S3 := J3.suite he3 hd3 na nL nF
    refine wpAny_handleBy_cons (codeAny_handlers_test ?_) (by intro q; cases q)
    have LT : PySem.W.Looks (model X.prog X.w) h3 (typeOf (.ref a)) cls := fun A Q E s k q => wpAny_typeOf_ref (k _ _ he3) (by rw [hz3.1]; exact q)
    have LM := PySem.W.exm_one (M := model X.prog X.w) (J3.kIn) LT hb1
    have test : ∀ {Q : Value → Shared → Prop} {E : Value → Shared → Prop}, Q c { s' with heap := h3 } → wpAny (model X.prog X.w) (X.A.mark (some (.ref a))) (eval (.Name x np) X.env) Q E { s' with heap := h3 } := fun {Q E} q => by
      obtain ⟨hg, hdbg, hm | ⟨hm, hv, hnn⟩⟩ := hc
      · exact ld_glob (X := X.suite a ((a, oe3) :: (X.pn ++ pins))) S3 hg hm q hdbg
      · exact ld_blt (X := X.suite a ((a, oe3) :: (X.pn ++ pins))) S3 hg hm hv q hnn hdbg
    refine test (LM.here ?_)
    cases b with
    | true =>
      refine codeAny_handlers_suite_as ?_
      refine HandSPX.lands_againZ fl3 fun h4 fl4 up4 => ?_
      have J4 : Inv X pins σ' H' { s' with heap := h4 } := J.landed nb fl4.1 ((up.trans up3).trans up4) os ag
      obtain ⟨oe4, vs4, he4, hz4, hd4⟩ := fl4.there
      obtain ⟨C, dd, ec, ed, hyes'⟩ := hyes rfl a na
      have T4 : Inv X pins σ' (upd H' a (xcH C dd a)) { s' with heap := h4 } := Inv.track J4 he4 hd4 na n0 nL np' (xcH_ok he4 (hz4.1.trans ec) (hz4.2.trans ed) hd4)
      have S4 : Inv (X.suite a (X.pn ++ pins)) [] σ' (upd H' a (xcH C dd a)) { s' with heap := h4 } :=
        ⟨T4.ok.suite _ _, T4.os, T4.bare, T4.base, T4.loc, T4.cell, T4.free, T4.freeC, fun p hp => T4.pin p (by rw [List.append_nil] at hp; exact hp), T4.hok, T4.len⟩
      refine store_ok (X := X.suite a (X.pn ++ pins)) (v := .ref a) S4 hN hi hloc rfl (fun s5 S5 => ?_) (.inr hln)
      refine wpAny_mono ((hsu a (X.pn ++ pins)).run [] s5 _ _ _ S5 hyes') (fun f s6 hsp => ?_) (fun _ _ z => False.elim z)
      have end_ : ∀ {σ6 : L2.St} {H6 : Hp} {Q : Shared → Prop}, Inv (X.suite a (X.pn ++ pins)) [] σ6 H6 s6 → (∀ s7, Inv X pins (σ6.set i none) H6 s7 → Q s7) →
          wpAny (model X.prog X.w) X.A (do bindName X.env n .none; unbindBehindTheSuite X.env n pos') (fun _ s7 => Q s7) X.xe s6 := fun {σ6 H6 Q} S6 hq =>
        gone_ok (⟨ok, S6.os, S6.bare, S6.base, S6.loc, S6.cell, S6.free, S6.freeC, fun p hp => S6.pin p (List.mem_append_left _ hp), S6.hok, S6.len⟩) hN hi hln hq
      cases f with
      | next =>
        obtain ⟨σ6, H6, S6, q6⟩ := hsp
        exact end_ S6 fun s7 J7 => ⟨_, _, J7, q6⟩
      | brk =>
        obtain ⟨σ6, H6, S6, q6⟩ := hsp
        exact end_ S6 fun s7 J7 => ⟨_, _, J7, q6⟩
      | cont =>
        obtain ⟨σ6, H6, S6, q6⟩ := hsp
        exact end_ S6 fun s7 J7 => ⟨_, _, J7, q6⟩
      | ret u =>
        obtain ⟨v6, σ6, H6, S6, r6, q6⟩ := hsp
        exact end_ S6 fun s7 J7 => ⟨_, _, _, J7, r6, q6⟩
    | false =>
      show wpAny _ X.A (handleBy (.ref a) X.env []) _ _ _
      refine wpAny_handleBy_nil ?_
      obtain ⟨k1, k2, k3, oe, vs, T, oT, ts', he, hz, hd, h1, hr⟩ := id fl3
      unfold PySem.passOn
      refine wpAny_bind (wpAny_field he hd h1 ?_)
      rw [if_neg (show ¬ ((Value.ref T == Value.none) = true) from by simp)]
      have fin : wpAny (model X.prog X.w) X.A (setFlight (.ref a) X.env.frame) (fun _ s4 => wpAny (model X.prog X.w) X.A (throw (.ref a) : Sem Flow) (SP X pins D) X.xe s4) X.xe { s' with heap := h3 } := by
        rw [hf]
        refine HandSPX.setFlight_upZ fl3 fun h4 hh4 up4 => wpAny_throw (tk _ _ ?_)
        exact ⟨a, B, sI, pins, σ', H', cls, d, rfl, J, nb, (up.trans up3).trans up4, .inr (.inr (by rw [hs]; exact hh4)), na, os, ag, hno rfl⟩
      first
        | exact wpAny_bind (wpAny_pure (wpAny_bind fin))
        | exact wpAny_bind fin
  · cases f with
    | next =>
      obtain ⟨σ', H', J', q⟩ := hsp
      exact wpAny_execs_nil ⟨σ', H', J'.ofTry ok, q⟩
    | brk =>
      obtain ⟨σ', H', J', q⟩ := hsp
      exact ⟨σ', H', J'.ofTry ok, q⟩
    | cont =>
      obtain ⟨σ', H', J', q⟩ := hsp
      exact ⟨σ', H', J'.ofTry ok, q⟩
    | ret u =>
      obtain ⟨v, σ', H', J', r, q⟩ := hsp
      exact ⟨v, σ', H', J'.ofTry ok, r, q⟩
end

/-! ## as data -/
section
variable {X : Cx} {W : Wo} {x n : Str} {c : Value} {i : Nat} {body suite : List Stmt} {b₀ : Stmt} {np pos pos' : Pos} {q : XQ W} {ts : DTS W} {e : Expr} {te : DT W} {f : Str} {C : Addr}
theorem ends_wb {B : Bs} {Ex : Addr → Prop} {H : Hp} {D0 : DEnds W} {b : Bond} : ELe (ends (W.wb b) B Ex H D0) (ends W B Ex H D0) where
  nx := fun _ _ ⟨E, r, o, a, R, c⟩ => ⟨E, r, o, a, R.unbond.1, c⟩
  rt := fun _ _ h => h
  bk := fun _ _ ⟨E, r, o, a, R, c⟩ => ⟨E, r, o, a, R.unbond.1, c⟩
  ct := fun _ _ ⟨E, r, o, a, R, c⟩ => ⟨E, r, o, a, R.unbond.1, c⟩
/-- what the clause wishes -/
def qAs (K : PySem.W.Frag) (c : Value) (i : Nat) (ts : DTS W) (q : XQ W) (D0 : DEnds W) : XQ W := fun C ns ds ρ ω => ∃ b, PySem.W.exmOne K (.ref C) c = some b ∧
  (b = true → ts { nx := fun ρ' ω' => D0.nx (ρ'.set i none) ω', rt := D0.rt, bk := fun ρ' ω' => D0.bk (ρ'.set i none) ω', ct := fun ρ' ω' => D0.ct (ρ'.set i none) ω' } (ρ.set i (some (.d (.exc C ns ds)))) ω) ∧ (b = false → q C ns ds ρ ω)
def dTry (K : PySem.W.Frag) (c : Value) (i : Nat) (tb : ∀ b : Bond, XQ W → DTS W) (ts : DTS W) (q : XQ W) : DTS W := fun D0 ρ ω => ∀ b : Bond, tb b (qAs K c i ts q D0) D0 ρ ω
theorem ds_try {tb : ∀ b : Bond, XQ W → DTS W} (hs : X.stack = X.env :: X.outer) (hf : X.env.frame = some X.env.locals) (hN : X.N.Nodup) (hi : X.N[i]? = some n) (hln : X.env.kindOf n = some .local) (hc : Names X x c) (tk : Takes X (wD W q))
    (hex : X.ex = []) (hpn : X.pn = [])
    (hb : ∀ (b : Bond) (q' : XQ (W.wb b)) (pn : List (Addr × Obj)) (xe : Value → Shared → Prop), Takes (X.tr pn xe) (wD (W.wb b) q') → PassesOwn (model X.prog X.w) X.A X.env xe → DSs (X.tr pn xe) (W.wb b) body (tb b q'))
    (hsu : ∀ (a : Addr) (pn : List (Addr × Obj)), DSs (X.suite a pn) W (b₀ :: suite) ts) :
    DS X W (.Try body [.ExceptHandler (some (.Name x np)) (some n) (b₀ :: suite) pos'] [] [] pos) (dTry X.K c i tb ts q) := by
  refine DS.of (ps_tryX (tb := fun Wx D σ H => ∃ (B : Bs) (Ex : Addr → Prop) (ρ : Rho) (ω : W.Om) (D0 : DEnds W) (q' : XQ W), Rep W B Ex H σ ρ ω ∧ (∀ b : Bond, tb b q' D0 ρ ω) ∧ ELe (ends W B Ex H D0) D ∧ ∀ cl d σ' H', wD (W.wb (bondAt B Ex H)) q' cl d σ' H' → Wx cl d σ' H')
    (ts := tS W ts) hs hf hN hi hln hc tk hex hpn (fun Wx pn xe tkx hp => ⟨fun pins s σ H D I ⟨B, Ex, ρ, ω, D0, q', rep, h, l, hw⟩ => ?_⟩) fun a pn => (hsu a pn).pss) fun B Ex ρ ω σ H D0 rep h => ?_
  · exact thn ((hb (bondAt B Ex H) q' pn xe (Takes.imp tkx hw) hp).run pins s σ H B Ex ρ ω D0 I (rep.bond ⟨rfl, Stp.refl⟩) (h _)) fun f s' z => SP.le (ends_wb.trans l) z
  · refine ⟨B, Ex, ρ, ω, D0, qAs X.K c i ts q D0, rep, h, ELe.refl, fun cl d σ' H' ⟨B', Ex', C, dd, ns, vs, ds, ρ', ω', a1, a2, hx, hl, nE, dl, R, b, e1, e2, e3⟩ => ?_⟩
    obtain ⟨R, hB, s1⟩ := R.unbond
    subst a1 a2 hB
    refine ⟨b, e1, fun hb a na => ⟨C, dd, rfl, rfl, ?_⟩, fun hb => ⟨_, Ex', C, dd, ns, vs, ds, ρ', ω', rfl, rfl, hx, hl, nE, dl, R, e3 hb⟩⟩
    have sm := same_upd (o := xcH C dd a) na
    have R2 := R.grow sm
    have s2 : Stp Ex' H' Ex' (upd H' a (xcH C dd a)) := R.stp (Kp.same sm) R2.wo
    have dq : Dq (upd H' a (xcH C dd a)) Ex' (.ref a) (.exc C ns ds) := .exc upd_same (R.new na) (by rw [upd_ne (ne_of_none hx na)]; exact hx) nE hl (dl.same sm)
    refine ⟨_, Ex', _, ω', _, R2.set dq i, e2 hb, ⟨fun σ6 H6 ⟨E6, ρ6, ω6, s6, r6, z6⟩ => ⟨E6, ρ6.set i none, ω6, (s1.trans s2).trans s6, r6.clr i none, z6⟩, fun _ _ z => z, fun σ6 H6 ⟨E6, ρ6, ω6, s6, r6, z6⟩ => ⟨E6, ρ6.set i none, ω6, (s1.trans s2).trans s6, r6.clr i none, z6⟩,
      fun σ6 H6 ⟨E6, ρ6, ω6, s6, r6, z6⟩ => ⟨E6, ρ6.set i none, ω6, (s1.trans s2).trans s6, r6.clr i none, z6⟩⟩⟩
/-- around a def that lets nothing out -/
theorem takesN : Takes X (wD W fun _ _ _ _ _ => False) := fun _ _ x => by
  obtain ⟨_, _, _, _, _, _, _, _, _, _, _, _, _, _, _, _, z⟩ := x
  obtain ⟨_, _, _, _, _, _, _, _, _, _, _, _, _, _, _, _, z⟩ := z
  exact z.elim

/-! ## its fields, its class -/
def dXf {W : Wo} (C : Addr) (f : Str) (te : DT W) : DT W := fun ρ ω Q => te ρ ω fun x ω1 => ∃ ns ds d, x = .exc C ns ds ∧ (ns.zip ds).lookup f = some d ∧ Q d ω1
theorem de_xf (T : XfC X.K C) (hno : PySem.W.findIn X.K (.ref C) f = some none) (h : DE X W e te) (hb : attributeBase e f X.env (eval e X.env) = eval e X.env := by rfl) : DE X W (.Attribute e f pos) (dXf C f te) := by
  refine ⟨fun pins s σ H B Ex ρ ω Q I rep q => attr_of hb (thn (h.run pins s σ H B Ex ρ ω _ I rep q) fun u s1 ⟨v, H1, I1, r1, d, ω1, k1, w1, z, ns, ds, d', e1, l, q'⟩ => ?_)⟩
  subst e1
  cases z with
  | exc h1 n1 h2 n2 hl dl =>
    obtain ⟨v', lv, dv⟩ := zipL dl hl l
    rename_i a dd vs
    obtain rfl : u = Value.ref a := r1
    obtain ⟨oe, ws, ha, c1, c2, c3⟩ := xcH_at I1.hok h1
    have hx : ObjOk X.prog X.w H1 s1.heap dd (.xd (ns.zip vs)) := I1.hok dd _ h2
    obtain ⟨mA, hns, hr⟩ := hx
    obtain ⟨od, ho, hlk⟩ := lookIn_ns hns
    obtain ⟨u, hu, ru⟩ := RelO.some_of (v := v') (o := mA f) (by rw [← lv]; exact hr f)
    have J : PySem.W.InstAt s1.heap a oe C (some od) := ⟨ha, c1, by unfold PySem.W.notCls; rw [c3] <;> rfl, by rw [c2]; exact ho⟩
    exact HandSPX.exc_get I1.kIn J T.ga T.gg T.exC (PySem.W.findObj_own T.hdC hno rfl (by rw [hlk, hu])) (handed_of ru) ⟨v', H1, I1.tok _, ru, d', ω1, k1, w1, dv, q'⟩
theorem kitx_excD {K : PySem.W.Frag} {x D : Addr} {ox : Obj} {od : Option Obj} (c : ExcC K D) : PySem.W.KitX K (.ref x) (.ref D) (fun h => PySem.W.InstAt h x ox D od) where
  ty := fun _ _ _ I => I.type
  it := fun _ _ X _ => by
    obtain ⟨cdD, hcD, _⟩ := PySem.W.any_some c.hd
    unfold PySem.W.clsIn at hcD
    split at hcD
    · rename_i c' d' cd' sl' ho
      intro A' Q' E' s' k q
      unfold isType loadHead
      exact wpAny_bind (wpAny_loadPart (k _ _ (X _ _ ho)) (wpAny_pure q))
    · cases hcD
  ne := fun h tp dd its n sl X htp => by
    obtain ⟨cdD, hcD, _⟩ := PySem.W.any_some c.hd
    refine Bool.eq_false_iff.mpr fun q => ?_
    have e : D = tp := Value.ref.inj (beq_iff_eq.mp q)
    subst e
    unfold PySem.W.clsIn at hcD
    split at hcD
    · rename_i c' d' cd' sl' ho
      have z := (X _ _ ho).symm.trans htp
      cases z
    · cases hcD
  ca := fun X I k => PySem.W.kx_classE X I c.hg c.hk c.hs (PySem.W.findObj_dataE (by obtain ⟨cd, hc, _⟩ := PySem.W.any_some c.hd; rw [hc]; rfl) c.ha c.hn c.ht) c.hm k
theorem call_isX : CallR X (.builtin "isinstance") (fun xs H Q => ∃ (a D dd : Addr) (cc : V) (cv : Value) (b : Bool) (fs : List (Str × V)), xs = [.ref a, cc] ∧ (∀ u, RelV cc u → u = cv) ∧ H a = some (xcH D dd a) ∧ H dd = some (.xd fs) ∧ ExcC X.K D ∧ PySem.W.kitOne X.K (.ref D) cv = some b ∧ Q (.bl b) H) := by
  intro pins s σ H xs us Q I r h
  obtain ⟨a, D, dd, cc, cv, b, fs, rfl, hcv, e1, e2, C, e, q⟩ := h
  cases r with
  | cons rx rr =>
    cases rr with
    | cons rt rr =>
      cases rr
      cases rx
      have ec := hcv _ rt
      subst ec
      obtain ⟨oe, ws, ha, c1, c2, c3⟩ := xcH_at I.hok e1
      have hx : ObjOk X.prog X.w H s.heap dd (.xd fs) := I.hok dd _ e2
      obtain ⟨mA, hns, hr⟩ := hx
      obtain ⟨od, ho, hlk⟩ := lookIn_ns hns
      have J : PySem.W.InstAt s.heap a oe D (some od) := ⟨ha, c1, by unfold PySem.W.notCls; rw [c3] <;> rfl, by rw [c2]; exact ho⟩
      exact PySem.W.kia_one (kitx_excD C) I.kIn J e (fun z => nomatch z) fun tk => ⟨.bl b, H, I.kept (t' := tk) fun _ _ z => z, rfl, q⟩
/-- isinstance(e, T), T a built-in class -/
def dIsX {W : Wo} (C : Addr) (b : Bool) (te : DT W) : DT W := fun ρ ω Q => te ρ ω fun x ω1 => ∃ ns ds, x = .exc C ns ds ∧ Q (.bl b) ω1
theorem de_isX {T : Str} {T' : String} {b : Bool} {p pt : Pos} (hg : Gl X "isinstance") (hm : X.mg "isinstance" = none) (ha : DE X W e te) (hgx : Gl X T) (hmx : X.mg T = none) (hv : bootBuiltins T = some (.type T')) (hnn : T ≠ "__name__")
    (c : ExcC X.K C) (hk : PySem.W.kitOne X.K (.ref C) (.type T') = some b)
    (hdb : (T == ("__debug__" : Str)) = false := by decide) (he : starEach [e, .Name T pt] X.env = (false, eval e X.env) :: starEach [.Name T pt] X.env := by rfl) (he2 : starEach [.Name T pt] X.env = (false, eval (.Name T pt) X.env) :: starEach [] X.env := by rfl)
    (hpl : (backTo pos (starEach [.Name T pt] X.env)).any (·.1) = false := by rfl) :
    DE X W (.Call (.Name "isinstance" p) [e, .Name T pt] [] pos) (dIsX C b te) := by
  refine DX.of (pe_callB call_isX hg hm (by decide +kernel) (pa_cons ha.pe (pa_cons (pe_bltn (v := .ty T') hgx hmx hv rfl hnn hdb) pa_nil he2) he) (by decide) (by decide) he hpl) fun B Ex ρ ω σ H Q rep q => ⟨B, Ex, ρ, ω, _, rep, q, fun d ω1 v H1 ⟨ns, ds, e1, q1⟩ k1 w1 z1 => ?_⟩
  subst e1
  cases z1 with
  | exc h1 n1 h2 n2 hl dl => exact ⟨_, C, _, _, _, b, _, rfl, fun u r => r, h1, h2, c, hk, _, ω1, k1, w1, .bl _, q1⟩
end
end Tk

namespace Tk
open PySem PySem.Spec PyProof.Rows L2 LamX

/-! ## the world beside the table of a code object -/
def TabAt (W : Wo) (P : Addr) (q : Str) (N : Addr → Prop) (H : Hp) : Prop := ∃ ps : Array Value, H P = some (.tbl ps) ∧ TriplesOk ps.toList ∧ ∀ (pos : Pos) (cv : Value), codeAmong pos ps.toList = some cv → ∃ c, cv = .ref c ∧ H c = some (CodeO c q) ∧ ¬ N c ∧ ¬ W.Mu c ∧ c ≠ P
@[reducible] def TabW (W : Wo) (P : Addr) (q : Str) : Wo where
  Om := W.Om
  Mu := fun a => W.Mu a ∨ a = P
  ok := fun ω N H => W.ok ω (fun b => N b ∨ b = P) H ∧ ¬ W.Mu P ∧ ¬ N P ∧ TabAt W P q N H
  grow := fun {ω N H H'} ⟨h, m, n, ps, hP, ht, ha⟩ k => ⟨W.grow h fun b o e m => k b o e fun z => m (.inl z), m, n, ps, k _ _ hP n, ht, fun pos cv e => by
    obtain ⟨c, e1, e2, e3, e4⟩ := ha pos cv e
    exact ⟨c, e1, k _ _ e2 e3, e3, e4⟩⟩
  less := fun {ω N N' H} ⟨h, m, n, ps, hP, ht, ha⟩ s => ⟨W.less h fun b m => m.elim (fun z => (s b z).elim (fun z => .inl (.inl z)) .inr) fun e => .inl (.inr e), m, fun z => (s P z).elim n fun z => (by rw [hP] at z; cases z), ps, hP, ht, fun pos cv e => by
    obtain ⟨c, e1, e2, e3, e4⟩ := ha pos cv e
    exact ⟨c, e1, e2, fun z => (s c z).elim e3 fun z => (by rw [e2] at z; cases z), e4⟩⟩
  trk := fun {ω N H a} ⟨h, m, n, ps, hP, ht, ha⟩ z => by
    rcases z with z | z
    · exact W.trk h z
    · subst z; rw [hP]; exact fun z => nomatch z
instance {W : Wo} {P : Addr} {q : Str} : Free (TabW W P q) := ⟨fun _ _ _ => trivial⟩
section
variable {W : Wo} {P0 : Addr} {q : Str} {Ex : Addr → Prop} {ω ω' : W.Om} {H H' : Hp}
theorem TabW.inn (h : (TabW W P0 q).at Ex ω H) : W.at Ex ω H := W.less h.1 fun b m => by
  by_cases e : b = P0
  · exact .inl (.inr e)
  · exact .inl (.inl ⟨m.1, fun z => z.elim m.2 e⟩)
theorem TabW.out (h : (TabW W P0 q).at Ex ω H) (hP : Ex P0) (k : Kp W H H') (w : W.at Ex ω' H') : (TabW W P0 q).at Ex ω' H' := by
  obtain ⟨h1, m, n, ps, hp, ht, ha⟩ := h
  refine ⟨W.less w fun b z => .inl ?_, m, n, ps, k _ _ hp m, ht, fun pos cv e => ?_⟩
  · rcases z with z | z
    · exact ⟨z.1, fun y => z.2 (.inl y)⟩
    · subst z; exact ⟨hP, m⟩
  · obtain ⟨c, e1, e2, e3, e4, e5⟩ := ha pos cv e
    exact ⟨c, e1, k _ _ e2 e4, e3, e4, e5⟩
theorem Kp.tab (k : Kp W H H') : Kp (TabW W P0 q) H H' := fun b o e m => k b o e fun z => m (.inl z)
end
section
variable {P : Program} {w : World} {K : PySem.W.Frag} {mg : Str → Option Value} {base : Heap} {CX : CXT} {k : Nat} {f : Addr} {fd : FuncData} {ps : List Str} {W : Wo}
theorem FnG.tab {S : Spd W} (F : FnG P w K mg base CX k f fd ps (spOf W S)) (P0 : Addr) (q : Str) : FnG P w K mg base CX k f fd ps (spOf (TabW W P0 q) S) :=
  F.imp fun vs H Q E ⟨Ex, ω, ds, Q0, a, b, c, d, h, r⟩ => ⟨Ex, ω, ds, Q0, TabW.inn a, fun z m => b z (.inl m), c, d, h, fun d' ω' v H' q' k' w' z => r d' ω' v H' q' k'.tab (TabW.out a (b P0 (.inr rfl)) k' w') z⟩
theorem FnG.tabX {S : Spx W} (F : FnG P w K mg base CX k f fd ps (spX W S)) (P0 : Addr) (q : Str) : FnG P w K mg base CX k f fd ps (spX (TabW W P0 q) S) :=
  F.imp fun vs H Q E ⟨Ex, ω, ds, Q0, X0, a, b, c, d, h, r, rx⟩ => ⟨Ex, ω, ds, Q0, X0, TabW.inn a, fun z m => b z (.inl m), c, d, h, fun d' ω' v H' q' k' w' z => r d' ω' v H' q' k'.tab (TabW.out a (b P0 (.inr rfl)) k' w') z,
    fun C ns ds' ω' dd vs' H' q' k' w' e1 e2 e3 e4 => rx C ns ds' ω' dd vs' H' q' k'.tab (TabW.out a (b P0 (.inr rfl)) k' w') e1 e2 e3 e4⟩
end

/-! ## a lambda is made -/
section
variable {X : Cx} {pins : List (Addr × Obj)} {σ : L2.St} {H : Hp} {s : Shared}
theorem lam_makeW {c P : Addr} {params : Arguments} {body : Expr} {scope : Scope} {pos : Pos} {E : Value → Shared → Prop} {Q : Value → Shared → Prop} {ps : Array Value} {G : Addr → Prop} (I : Inv X pins σ H s) (TB : TabB X.base X.mg c P) (hcode : X.env.code = .ref c)
    (hP : H P = some (.tbl ps)) (ht : TriplesOk ps.toList) (ha : ∀ (pos : Pos) (cv : Value), codeAmong pos ps.toList = some cv → ∃ c, cv = .ref c ∧ H c = some (CodeO c (X.env.qual ++ "<lambda>")) ∧ G c) (hG : ∀ c, H c = none → G c)
    (hdef : defaultsOf params X.env = ([], [])) (hfree : ∀ y ∈ scope.names, y.2 = .free → ∃ c, X.env.cells.lookup y.1 = some c)
    (h : ∀ (f c' : Addr) (pm ctv : Value) (H1 : Hp) (s' : Shared) (ps1 : Array Value), Inv X pins σ H1 s' → (∀ b o, H b = some o → b ≠ P → H1 b = some o) → H1 P = some (.tbl ps1) → TriplesOk ps1.toList →
      (∀ (pos : Pos) (cv : Value), codeAmong pos ps1.toList = some cv → ∃ c, cv = .ref c ∧ H1 c = some (CodeO c (X.env.qual ++ "<lambda>")) ∧ G c) →
      s'.heap.get? f = some (PySem.W.kla_obj "<lambda>" (X.env.qual ++ "<lambda>") params body scope (cloFrom X.env.cells scope.names []) pm c' ctv) → H1 f = none → f ∉ frs X.stack → H1 c' = some (CodeO c' (X.env.qual ++ "<lambda>")) → G c' → Q (.ref f) s') :
    wpAny (model X.prog X.w) X.A (eval (.Lambda params body scope pos) X.env) Q E s := by
  refine PySem.W.kla_eval hdef ?_
  have bP : s.heap.BuiltinsAt X.mg P := TB.bm.keeps I.bk
  have hP' : s.heap.get? P = some { cls := .none, data := .fields ps } := I.hok P _ hP
  have nofr : ∀ f, s.heap.objs.size ≤ f → f ∉ frs X.stack := fun f hf z => by
    rcases List.mem_cons.mp (I.stkSub _ z) with e | e
    · have h1 := I.lt
      rw [← e] at h1
      exact Nat.lt_irrefl _ (Nat.lt_of_lt_of_le h1 hf)
    · exact I.nofs hf e
  cases hc : codeAmong pos ps.toList with
  | none =>
    refine PySem.W.kla_makeFunction (mg := X.mg) (c := c) (P := P) (ps := ps) (closure_ok hfree) I.ok.glob (I.mod.glob.keeps I.bk) hcode (TB.code.keeps I.bk) hP' ht hc TB.gP bP fun c' ctv h' tk hx hge hlt hrec htb => ?_
    obtain ⟨c2, oc, vs, t, e2, hoc, hd, hv⟩ := hrec
    cases e2
    have hsz : s.heap.objs.size ≤ h'.objs.size := Nat.le_trans hge (Nat.le_of_lt hlt)
    have nC : H c' = none := I.hok.fresh hge
    have I1 := inv_table (t' := tk) (more := #[rawInt pos.line, rawInt pos.col, .ref c']) (h' := h'.push (PySem.W.kla_obj "<lambda>" (X.env.qual ++ "<lambda>") params body scope (cloFrom X.env.cells scope.names []) ((X.mg "__name__").getD .none) c' ctv)) I hP
      (fun b o hb e => Heap.get?_push_of_some _ (hx b o hb e)) (Heap.get?_push_of_some _ htb) hge ⟨oc, vs, t, Heap.get?_push_of_some _ hoc, hd, hv⟩
    have hE : ∀ b o, H b = some o → b ≠ P → upd (upd H P (.tbl (ps ++ #[rawInt pos.line, rawInt pos.col, .ref c']))) c' (CodeO c' (X.env.qual ++ "<lambda>")) b = some o := fun b o e n => by
      rw [upd_ne (ne_of_none e nC), upd_ne n]
      exact e
    have eL : (ps ++ #[rawInt pos.line, rawInt pos.col, .ref c']).toList = ps.toList ++ [rawInt pos.line, rawInt pos.col, .ref c'] := by simp
    refine h h'.objs.size c' ((X.mg "__name__").getD .none) ctv _ _ (ps ++ #[rawInt pos.line, rawInt pos.col, .ref c']) I1 hE (by rw [upd_ne (ne_of_none hP nC), upd_same]) (by rw [eL]; exact PySem.TriplesOk_snoc _ _ _ _ ht) (fun p' cv hcv => ?_) (Heap.get?_push_size _ rfl) ?_ (nofr _ hsz) upd_same (hG c' nC)
    · rw [eL] at hcv
      rcases among_app _ ht hcv with z | z
      · obtain ⟨c0, e1, e2, e3⟩ := ha p' cv z
        exact ⟨c0, e1, hE _ _ e2 (fun z => by rw [z, hP] at e2; exact codeO_ne _ (Option.some.inj e2).symm), e3⟩
      · exact ⟨c', z, upd_same, hG c' nC⟩
    · have n1 : h'.objs.size ≠ c' := Nat.ne_of_gt hlt
      have n2 : h'.objs.size ≠ P := Nat.ne_of_gt (Nat.lt_of_lt_of_le (Heap.lt_size hP') hsz)
      rw [upd_ne n1, upd_ne n2]
      exact I.hok.fresh hsz
  | some cv =>
    obtain ⟨c', e, hco, hg⟩ := ha pos cv hc
    subst e
    refine PySem.W.kla_makeFunctionHit (mg := X.mg) (c := c) (P := P) (ps := ps) (closure_ok hfree) I.ok.glob (I.mod.glob.keeps I.bk) hcode (TB.code.keeps I.bk) hP' ht hc bP fun ctv h' tk hx hsz => ?_
    have I1 : Inv X pins σ H { s with heap := h'.push (PySem.W.kla_obj "<lambda>" (X.env.qual ++ "<lambda>") params body scope (cloFrom X.env.cells scope.names []) ((X.mg "__name__").getD .none) c' ctv), toks := tk } := I.kept fun b o e => Heap.get?_push_of_some _ (hx b o e)
    exact h h'.objs.size c' ((X.mg "__name__").getD .none) ctv H _ ps I1 (fun _ _ e _ => e) hP ht ha (Heap.get?_push_size _ rfl) (I.hok.fresh hsz) (nofr _ hsz) hco hg
end

/-! ## x(lambda: e), over data -/
/-- what such a lambda does, called -/
abbrev Act (W : Wo) := W.Om → (D → W.Om → Prop) → (Addr → List Str → List D → W.Om → Prop) → Prop
def dOnly : Option Sl → Option Sl
  | some (.d d) => some (.d d)
  | _ => none
section
variable {W : Wo} {B : Bs} {Ex ExZ : Addr → Prop} {H HZ : Hp} {σ : List (Option V)} {ρ : Rho} {ω ωZ : W.Om}
/-- the slots' data, as a lambda within a further def sees them -/
theorem Rep.lend [Free W] (R : Rep W B Ex H σ ρ ω) (k : Kp W H HZ) (w : W.at ExZ ωZ HZ) (mu : ∀ a, W.Mu a → ExZ a) (tr : ∀ a, ExZ a → HZ a ≠ none) (out : ∀ a, ExZ a → Ex a ∨ H a = none) : Rep W ⟨HZ, ExZ⟩ ExZ HZ σ (ρ.map dOnly) ωZ where
  wo := w
  mu := mu
  sub := fun _ h => h
  out := fun _ h => .inl h
  tr0 := tr
  tr := tr
  kp := Kp.refl
  len := by rw [List.length_map]; exact R.len
  sl := fun i z e => by
    rw [List.getElem?_map] at e
    cases e1 : ρ[i]? with
    | none => rw [e1] at e; cases e
    | some o =>
      rw [e1] at e
      match o, e1, e with
      | some (.d d), e1, e =>
        cases e
        obtain ⟨o, h1, h2⟩ := R.sl i _ e1
        refine ⟨o, h1, ?_⟩
        cases o with
        | none => exact h2.elim
        | some v => exact Dq.to (fun a o e n => ⟨k a o e fun m => n (R.muEx m), fun m => (out a m).elim n fun z => by rw [z] at e; cases e⟩) h2
  dis := fun i j z y a e1 e2 o1 => by
    rw [List.getElem?_map] at e1
    cases e : ρ[i]? with
    | none => rw [e] at e1; cases e1
    | some o =>
      rw [e] at e1
      match o, e1 with
      | some (.d d), e1 => cases e1; cases o1
  ofr := fun i z a e1 o1 => by
    rw [List.getElem?_map] at e1
    cases e : ρ[i]? with
    | none => rw [e] at e1; cases e1
    | some o =>
      rw [e] at e1
      match o, e1 with
      | some (.d d), e1 => cases e1; cases o1
  bb := Free.bb _ _ _
end
def dAct {W : Wo} (f : Addr) (q : XQ W) (act : Act W) : DT W := fun ρ ω Q => ρ[0]? = some (some (.d (.ob f))) ∧ act ω Q fun C ns ds ω' => q C ns ds ρ ω'
/-- the def that calls what it got, by what it makes of it -/
def GivesD (X : Cx) (W : Wo) (Ng : List Str) (x : Str) (sg : Scope) (g : Addr) (cdg : Value) (bg : List Stmt) (a : Str) (TT : Act W → W.Om → (D → W.Om → Prop) → Prop) : Prop :=
  ∀ (f : Addr) (s : Shared) (H : Hp) (ω : W.Om) (Q : D → W.Om → Prop) (act : Act W),
    (∀ (b : Bond) (q' : XQ (W.wb b)) (pn : List (Addr × Obj)) (xe : Value → Shared → Prop) (p1 p2 : Pos), Takes ((cxOf C8.CX0 X.prog X.w X.K X.mg X.base Ng x sg g cdg X.A X.stack s H C8.E0).tr pn xe) (wD (W.wb b) q') →
      DE ((cxOf C8.CX0 X.prog X.w X.K X.mg X.base Ng x sg g cdg X.A X.stack s H C8.E0).tr pn xe) (W.wb b) (.Call (.Name a p1) [] [] p2) (dAct f q' act)) →
    TT act ω Q → ∃ t : DTS W, DSs (cxOf C8.CX0 X.prog X.w X.K X.mg X.base Ng x sg g cdg X.A X.stack s H C8.E0).nox W bg t ∧ t { nx := fun _ ω' => Q .non ω', rt := Q } (startD Ng [.ob f]) ω
def dLam {W : Wo} (TT : Act W → W.Om → (D → W.Om → Prop) → Prop) (tb : ∀ b : Bond, XQ W → DT W) : DT W := fun ρ ω Q => TT (fun ωZ Q' X' => ∀ b, tb b (fun C ns ds _ ω' => X' C ns ds ω') (ρ.map dOnly) ωZ Q') ω Q
section
variable {X : Cx} {W0 : Wo}
theorem de_lam {P : Addr} {q x a : Str} {g c : Addr} {k : Nat} {pg : Arguments} {bg : List Stmt} {sg : Scope} {dV kV doc pm cdv ct oc : Value} {an od : Option Addr} {osl : Array (Option Value)} {Ng : List Str}
    {params : Arguments} {body : Expr} {scope : Scope} {TT : Act W0 → W0.Om → (D → W0.Om → Prop) → Prop} {tb : ∀ b : Bond, XQ W0 → DT W0} {p lpos pos : Pos} (gd : Gd X.A) (hg : Gl X x) (hm : X.mg x = some (.ref g)) (hk : PySem.W.keepIn X.K (.ref g) = true)
    (lk : X.K.lookup g = some ⟨oc, od, .func (PySem.W.fnOf x x pg bg sg dV kV doc pm an cdv ct), osl⟩) (hcg : PySem.W.codeIn X.K cdv x = true) (hb : L2.Binds X.K (PySem.W.fnOf x x pg bg sg dV kV doc pm an cdv ct) [a] []) (Sg : FnScope Ng [a] sg) (hNg : Ng[0]? = some a) (hva : Vis sg a)
    (hG : ∀ b0 : Bond, GivesD X ((TabW W0 P q).wb b0) Ng x sg g cdv bg a TT)
    (TB : TabB X.base X.mg c P) (hcode : X.env.code = .ref c) (hq : q = X.env.qual ++ "<lambda>") (hr : Room (k + 2) X.A) (L : LamS X.env.scope scope) (hdef : defaultsOf params X.env = ([], []))
    (hbind : ∀ (q : Str) (cl : List (Str × Addr)) (pm cv ctv : Value), bindArgs (PySem.W.kla_fn "<lambda>" q params body scope cl pm cv ctv) ⟨[], []⟩ = pure [])
    (hbody : ∀ (A : Around) (outer : List Env) (s : Shared) (H : Hp) (E : XK) (f c' : Addr) (b : Bond) (qx : XQ ((TabW W0 P q).wb b)), Gd A → Room k (A.deeper (lamEnv X scope s.heap.objs.size f c')) → Takes (lamCx X A outer s H E scope f c') (wD ((TabW W0 P q).wb b) qx) →
      DE (lamCx X A outer s H E scope f c') ((TabW W0 P q).wb b) body (tb b qx))
    (hdb : (x == ("__debug__" : Str)) = false := by decide) (hd : (a == ("__debug__" : Str)) = false := by decide) (hcd : (a == ("__classdict__" : Str)) = false := by decide) :
    DE X (TabW W0 P q) (.Call (.Name x p) [.Lambda params body scope lpos] [] pos) (dLam TT tb) := by
  refine ⟨fun pins s σ H B Ex ρ ω Q I rep h => ?_⟩
  subst hq
  obtain ⟨w1, w2, w3, ps, hP, ht, ha⟩ := id rep.wo
  have mP : Ex P := rep.muEx (.inr rfl)
  refine wpAny_Call_Name_kw (ld_glob I hg hm ?_ hdb)
  refine PySem.W.callWith_K (h₀ := X.base) I.ok.mod.kin hk ?_ (by rfl) (by rfl)
  show wpAny _ _ (spliced ((false, eval (.Lambda params body scope lpos) X.env) :: backTo pos (starEach [] X.env))) _ _ s
  refine Calls.spliced_cons (lam_makeW (G := fun c => ¬ Ex c ∧ ¬ W0.Mu c ∧ c ≠ P) I TB hcode hP ht (fun pos cv e => ?_) (fun c n => ⟨rep.new n, fun m => W0.trk w1 m n, fun z => by rw [z, hP] at n; cases n⟩) hdef (L.has I.ok) fun f c' pm' ctv H1 s' ps1 I1 kp hP1 ht1 ha1 hf hfn hfr hco hgc => ?_)
  · obtain ⟨c, e1, e2, e3, e4, e5⟩ := ha pos cv e
    exact ⟨c, e1, e2, fun m => e3 ⟨m, fun z => z.elim e4 e5⟩, e4, e5⟩
  refine Calls.spliced_nil ⟨I1.kIn, ?_⟩
  have k1 : Kp (TabW W0 P (X.env.qual ++ "<lambda>")) H H1 := fun b o e m => kp b o e fun z => m (.inr z)
  have wH1 : (TabW W0 P (X.env.qual ++ "<lambda>")).at Ex ω H1 :=
    ⟨W0.grow w1 fun b o e m => kp b o e fun z => m (.inr z), w2, w3, ps1, hP1, ht1, fun pos cv e => by
      obtain ⟨c, e1, e2, e3, e4, e5⟩ := ha1 pos cv e
      exact ⟨c, e1, e2, fun m => e3 m.1, e4, e5⟩⟩
  have rep1 := rep.go k1 wH1
  have rc : codeAny (model X.prog X.w) X.A (.call (.ref g) ⟨[.ref f], []⟩) (CR C8.CX0 X.stack X.prog X.w H1 s' (Post Cl (TabW W0 P (X.env.qual ++ "<lambda>")) Ex H Q) C8.E0) s' := by
    refine run_ofS (N := Ng) (ps := [a]) (us := [.ref f]) (vs := [.ref f]) lk hcg Sg hr I1.env0 (hb s' [.ref f] I1.kIn rfl) (.cons rfl .nil) rfl fun hr' => ?_
    have hact0 : ∀ (b : Bond) (q' : XQ (((TabW W0 P (X.env.qual ++ "<lambda>")).wb (bondAt ⟨H1, Ex⟩ Ex H1)).wb b)) (pn : List (Addr × Obj)) (xe : Value → Shared → Prop) (p1 p2 : Pos), Takes ((cxOf C8.CX0 X.prog X.w X.K X.mg X.base Ng x sg g cdv X.A X.stack s' H1 C8.E0).tr pn xe) (wD (((TabW W0 P (X.env.qual ++ "<lambda>")).wb (bondAt ⟨H1, Ex⟩ Ex H1)).wb b) q') →
        DE ((cxOf C8.CX0 X.prog X.w X.K X.mg X.base Ng x sg g cdv X.A X.stack s' H1 C8.E0).tr pn xe) (((TabW W0 P (X.env.qual ++ "<lambda>")).wb (bondAt ⟨H1, Ex⟩ Ex H1)).wb b) (.Call (.Name a p1) [] [] p2) (dAct f q' fun ωZ Q' X' => ∀ b, tb b (fun C ns ds _ ω' => X' C ns ds ω') (ρ.map dOnly) ωZ Q') := fun b q' pn xe p1 p2 tk => by
      refine ⟨fun pinsZ sZ σZ HZ BZ ExZ ρZ ωZ QZ IZ repZ hZ => ?_⟩
      obtain ⟨h0, hact⟩ := hZ
      obtain ⟨r1, _⟩ := repZ.unbond
      obtain ⟨r2, hB, s1⟩ := r1.unbond
      obtain ⟨v0, g1, g2⟩ := repZ.slot h0
      have ev : v0 = .ref f := by cases g2; rfl
      subst ev
      have kZ : Kp (TabW W0 P (X.env.qual ++ "<lambda>")) H1 HZ := by
        have := r2.kp
        rw [hB] at this
        exact this
      have hcZ : HZ c' = some (CodeO c' (X.env.qual ++ "<lambda>")) := kZ _ _ hco fun z => z.elim hgc.2.1 hgc.2.2
      refine wpAny_Call_Name_kw (thn ((pe_var (pos := p1) (i := 0) hNg hva hd hcd).run pinsZ sZ σZ HZ (fun v H1 => v = .ref f ∧ H1 = HZ) IZ ⟨.ref f, g1, rfl, rfl⟩) fun u s1 ⟨v, H2, I2, r1', q1⟩ => ?_)
      obtain ⟨ev, eH⟩ := q1
      subst ev
      rw [eH] at I2
      obtain rfl : u = Value.ref f := r1'
      have of1 : s1.heap.get? f = some (PySem.W.kla_obj "<lambda>" (X.env.qual ++ "<lambda>") params body scope (cloFrom X.env.cells scope.names []) pm' c' ctv) := I2.base.keep f _ hf hfn hfr (fun z => nomatch (show f ∈ ([] : List Addr) from z))
      refine PySem.W.callWith_F0 ⟨_, _, _, _, of1⟩ ?_
      have un : Un (frs X.stack) [] H1 HZ s'.heap s1.heap := I2.base
      obtain ⟨⟨oc', vs', t0, hoc, hdc, hvc⟩, _, _⟩ := I2.hok c' _ hcZ
      have rcZ : codeAny (model X.prog X.w) (X.A.deeper (envOfC x sg s'.heap.objs.size g cdv)) (.call (.ref f) ⟨[], []⟩) (CR (L2.CX X.prog X.w) (envOfC x sg s'.heap.objs.size g cdv :: X.stack) X.prog X.w HZ s1 (Post Cl (((TabW W0 P (X.env.qual ++ "<lambda>")).wb (bondAt ⟨H1, Ex⟩ Ex H1)).wb b) ExZ HZ QZ)
          (fun cls d H' => wD (((TabW W0 P (X.env.qual ++ "<lambda>")).wb (bondAt ⟨H1, Ex⟩ Ex H1)).wb b) q' cls d σZ H')) s1 := by
        refine PySem.W.kla_callFunE hr'.depth of1 rfl L.co L.gen rfl ⟨c', oc', vs', t0, rfl, hoc, hdc, hvc⟩ ?_
        rw [hbind]
        refine wpAny_pure (wpAny_newFunctionEnv (fun y hy => (L.own y hy).2) (fun y hy => absurd hy (by simp)) (fun h₁ hns hsb => ⟨I2.nolimit.fresh _ hsb, ?_⟩) L.kind)
        show codeAny _ _ (.expr body (lamEnv X scope s1.heap.objs.size f c')) _ _
        have kp1 : ∀ b o, s1.heap.get? b = some o → h₁.get? b = some o := fun b o e => hsb.extBut b o (Nat.ne_of_lt (Heap.lt_size e)) (Heap.get?_push_of_some _ e)
        have J : Inv (lamCx X (X.A.deeper (envOfC x sg s'.heap.objs.size g cdv)) (envOfC x sg s'.heap.objs.size g cdv :: X.stack) s1 HZ (fun cls d H' => wD (((TabW W0 P (X.env.qual ++ "<lambda>")).wb (bondAt ⟨H1, Ex⟩ Ex H1)).wb b) q' cls d σZ H') scope f c') [] σ HZ { s1 with heap := h₁, toks := s1.toks + ([] : List (Str × Value)).length } :=
          lam_start2 I1 L I2.env0 hr'.hd un hns kp1
        have outZ : ∀ a, ExZ a → Ex a ∨ H1 a = none := fun a m => by
          have := r2.out a m
          rw [hB] at this
          exact this
        have repL := (rep1.lend kZ r2.wo (fun _ m => r2.muEx m) r2.tr outZ).bond (b := bondAt ⟨HZ, ExZ⟩ ExZ HZ) ⟨rfl, Stp.refl⟩
        have tkL : Takes (lamCx X (X.A.deeper (envOfC x sg s'.heap.objs.size g cdv)) (envOfC x sg s'.heap.objs.size g cdv :: X.stack) s1 HZ (fun cls d H' => wD (((TabW W0 P (X.env.qual ++ "<lambda>")).wb (bondAt ⟨H1, Ex⟩ Ex H1)).wb b) q' cls d σZ H') scope f c')
            (wD ((TabW W0 P (X.env.qual ++ "<lambda>")).wb (bondAt ⟨HZ, ExZ⟩ ExZ HZ)) fun C ns ds _ ω' => q' C ns ds ρZ ω') := by
          refine Takes.imp (takes_of (E := fun cls d H' => wD (((TabW W0 P (X.env.qual ++ "<lambda>")).wb (bondAt ⟨H1, Ex⟩ Ex H1)).wb b) q' cls d σZ H') rfl rfl rfl rfl) fun c0 d0 σ0 H0 ⟨B0, Ex0, C0, dd, ns, vs0, ds, ρ0, ω0, a1, a2, a3, a4, a5, a6, a7, a8⟩ => ?_
          obtain ⟨R, hB0, s0⟩ := a7.unbond
          subst hB0
          have kk : Kp (((TabW W0 P (X.env.qual ++ "<lambda>")).wb (bondAt ⟨H1, Ex⟩ Ex H1)).wb b) HZ H0 := R.kp
          have ww : (((TabW W0 P (X.env.qual ++ "<lambda>")).wb (bondAt ⟨H1, Ex⟩ Ex H1)).wb b).at ExZ ω0 H0 := Wo.le (W := TabW W0 P (X.env.qual ++ "<lambda>")) R.wo fun b m => .inl (R.sub b m)
          exact ⟨BZ, ExZ, C0, dd, ns, vs0, ds, ρZ, ω0, a1, a2, a3, a4, fun m => a5 (R.sub _ m), a6.to fun a o e n => ⟨e, fun m => n (R.sub a m)⟩, repZ.go kk ww, a8⟩
        refine PySem.W.kla_codeExpr (wpAny_mono ((hbody _ _ s1 HZ _ f c' (bondAt ⟨HZ, ExZ⟩ ExZ HZ) _ (gd.dp _) (hr'.deeper _) tkL).run [] _ _ HZ ⟨HZ, ExZ⟩ ExZ _ ωZ QZ J repL (hact _)) (fun v s' hq => ?_) fun e s' hq => hq)
        obtain ⟨w', H', J', rv, q⟩ := hq
        exact ⟨w', H', J'.os, J'.bare, J'.base, J'.hok, rv, q⟩
      refine wpAny_call (codeAny_mono rcZ fun r s' hq => ?_)
      cases r with
      | error e => exact tk e s' (XE.of_call I2 (fun _ _ _ h => h) hq)
      | ok fl =>
        cases fl with
        | ret u => exact I2.after hq
        | next => exact False.elim hq
        | brk => exact False.elim hq
        | cont => exact False.elim hq
    obtain ⟨t', ht', hq'⟩ := hG (bondAt ⟨H1, Ex⟩ Ex H1) f s' H1 ω Q _ hact0 h
    refine ⟨_, ht'.pss.nox, ⟨H1, Ex⟩, Ex, _, ω, _, (rep_start (W := TabW W0 P (X.env.qual ++ "<lambda>")) wH1 (fun _ m => rep.muEx m) rep1.tr (.cons (.ob f) .nil) trivial).bond ⟨rfl, Stp.refl⟩, hq', ⟨fun σ' H' ⟨Ex', ρ', ω', s, r, z⟩ => ?_, fun v H' ⟨d, ω', k, w, z, q'⟩ => ⟨d, ω', k1.trans k, w, z, q'⟩, fun σ' H' ⟨_, _, _, _, _, z⟩ => z.elim, fun σ' H' ⟨_, _, _, _, _, z⟩ => z.elim⟩⟩
    exact ⟨.non, ω', k1.trans r.kp, Wo.le (W := TabW W0 P (X.env.qual ++ "<lambda>")) r.wo fun b m => .inl (r.sub b m), .non, z⟩
  refine wpAny_call (codeAny_mono rc fun r s2 hq => ?_)
  cases r with
  | error e => exact (show False from hq).elim
  | ok fl =>
    cases fl with
    | ret u => exact I1.after hq
    | next => exact False.elim hq
    | brk => exact False.elim hq
    | cont => exact False.elim hq
end
end Tk

namespace Tk
open PySem PySem.Spec PyProof.Rows L2

/-! ## set(xs), xs plain things: None, ints, texts -/
def addKs (ks : List (Option Key)) (xs : List (Option Key)) : List (Option Key) := xs.foldl addK ks
theorem addKs_nd : ∀ (xs : List (Option Key)) {ks : List (Option Key)}, ks.Nodup → (addKs ks xs).Nodup
  | [], _, h => h
  | x :: xs, ks, h => addKs_nd xs (addK_nd h)
theorem addKs_len : ∀ (xs : List (Option Key)) (ks : List (Option Key)), (addKs ks xs).length ≤ ks.length + xs.length
  | [], ks => Nat.le_refl _
  | x :: xs, ks => by
    have h := addKs_len xs (addK ks x)
    have h2 : (addK ks x).length ≤ ks.length + 1 := by rw [addK_len]; split <;> omega
    show (addKs (addK ks x) xs).length ≤ _
    simp only [List.length_cons]
    omega
theorem addKs_snoc (ks xs : List (Option Key)) (x : Option Key) : addKs ks (xs ++ [x]) = addK (addKs ks xs) x := by
  unfold addKs
  rw [List.foldl_append]
  rfl
section
variable {P : Program} {w : World} {A : Around} {E : Value → Shared → Prop} {s : Shared}
theorem ksAt_keep {a : Addr} {ks : List (Option Key)} {h h' : Heap} (R : KsAt P w a ks h) (k : ∀ o, h.get? a = some o → h'.get? a = some o) : KsAt P w a ks h' := by
  obtain ⟨nd, S, ⟨o, es, ep, t, ho, r⟩, e⟩ := R
  exact ⟨nd, S, ⟨o, es, ep, t, k o ho, r⟩, e⟩
theorem ksAt_add {a : Addr} {ks : List (Option Key)} {k : Option Key} {h' : Heap} {S : Option Key → Bool} (nd : ks.Nodup) (eS : ∀ k, S k = hasK ks k) (R' : h'.SetOf (noneKind P w) a (fun k' => S k' || decide (k' = k)) (if S k = true then ks.length else ks.length + 1)) : KsAt P w a (addK ks k) h' := by
  refine ⟨addK_nd nd, fun k' => S k' || decide (k' = k), ?_, fun j => ?_⟩
  · have : (addK ks k).length = if S k = true then ks.length else ks.length + 1 := by rw [addK_len, eS]
    rw [this]
    exact R'
  · show (S j || decide (j = k)) = _
    rw [addK_has, eS]
/-- set.update's loop -/
theorem set_update_ks {I : Addr} {fp wr : List Addr} {G : Array GenState → Array GenState → Prop} {n : Nat} {Pv : Nat → Value → Prop} {St : Nat → Shared → Prop} {R : Result → Shared → Prop}
    (W : WalksS P w A.in1 I fp wr G n Pv St) (S : Addr) (hSf : S ∉ fp) (ks : List (Option Key)) (hn : n = ks.length) (hfew : ks.length + 1 < scanBound) (hval : ∀ i v, Pv i v → ∃ k, ks[i]? = some k ∧ (noneKind P w).is k v = true ∧ v.scannable = true) :
    ∀ (k i : Nat) (s : Shared), n - i = k → i ≤ n → St i s → KsAt P w S (addKs [] (ks.take i)) s.heap →
      (∀ s', Moved (S :: wr) G s s' → KsAt P w S (addKs [] ks) s'.heap → R (.ok (.ret .none)) s') →
      codeAny (model P w) A (.builtin "set.update.loop" ⟨[.ref S, .ref I], []⟩) R s := by
  have hSw : S ∉ wr := fun h => hSf (W.sub _ h)
  have hsub : ∀ b ∈ wr, b ∈ S :: wr := fun b hb => List.mem_cons_of_mem _ hb
  intro k
  induction k with
  | zero =>
    intro i s hk' hi hst hS hR
    have hin : i = n := by omega
    subst hin
    refine codeAny_builtin F.entry_set_update_loop ?_
    rw [Around.under_plainId F.plain_set_update_loop _]
    show wpAny _ A.in1 (pyNext (.ref I) >>= _) _ _ s
    refine wpAny_bind (W.done s _ _ hst fun s' hm => ?_)
    show wpAny _ A.in1 (ret Value.none) _ _ s'
    rw [hn, List.take_length] at hS
    exact wpAny_pure (hR s' (hm.mono hsub) (ksAt_keep hS fun o e => hm.heap S o hSw e))
  | succ k ih =>
    intro i s hk' hi hst hS hR
    have hlt : i < n := by omega
    refine codeAny_builtin F.entry_set_update_loop ?_
    rw [Around.under_plainId F.plain_set_update_loop _]
    show wpAny _ A.in1 (pyNext (.ref I) >>= _) _ _ s
    refine wpAny_bind (W.item i s _ _ hlt hst fun v s' hP hst' hm => ?_)
    obtain ⟨kk, hp, is, sc⟩ := hval i v hP
    have hS' : KsAt P w S (addKs [] (ks.take i)) s'.heap := ksAt_keep hS fun o e => hm.heap S o hSw e
    obtain ⟨nd, Sf, R0, eS⟩ := hS'
    show wpAny _ A.in1 (holding [v] (setAdd S v) >>= _) _ _ s'
    refine wpAny_bind (wpAny_holding ?_)
    unfold setAdd
    refine wpAny_holding ?_
    refine wpAny_bind ((noneKind P w).pyHash is ?_)
    have room : (addKs [] (ks.take i)).length + 1 < scanBound := by
      have h1 := addKs_len (ks.take i) []
      have h2 : (ks.take i).length ≤ ks.length := by rw [List.length_take]; omega
      simp only [List.length_nil] at h1
      omega
    refine wpAny_setAddHashed_of (s := { s' with toks := s'.toks + 1 }) is sc R0 room fun h' hsb hS2 => ?_
    have et : ks.take (i + 1) = ks.take i ++ [kk] := by
      rw [List.take_add_one, hp]
      rfl
    have g' : KsAt P w S (addKs [] (ks.take (i + 1))) h' := by
      rw [et, addKs_snoc]
      exact ksAt_add nd eS hS2
    refine wpAny_pure ⟨plainId_quiet F.plain_set_update_loop _, ih (i + 1) _ (by omega) hlt (W.frame _ s' _ _ hst' (Nat.le_add_right _ _) fun b hb o e => ?_) g' fun s'' hm'' hS'' => ?_⟩
    · rw [hsb.2 b (fun h : b = S => hSf (by rw [← h]; exact hb))]; exact e
    · refine hR s'' (Moved.trans W.gtrans ((hm.mono hsub).then_heap (Nat.le_add_right _ _) fun b o hb e => ?_) hm'') hS''
      rw [hsb.2 b (fun h : b = S => hb (by rw [h]; exact List.mem_cons_self))]; exact e

theorem call_set_ksL {l : Addr} {items : Array Value} (ks : List (Option Key)) {Q : Value → Shared → Prop} (hh : A.handled = none) (hl : s.heap.IsList l items) (hlen : items.size = ks.length)
    (hk : ∀ (i : Nat) (v : Value), items[i]? = some v → ∃ k, ks[i]? = some k ∧ (noneKind P w).is k v = true ∧ v.scannable = true) (hfew : ks.length + 1 < scanBound)
    (h : ∀ (h' : Heap) (tk : Nat), KsAt P w s.heap.objs.size (addKs [] ks) h' → (∀ b o, s.heap.get? b = some o → h'.get? b = some o) → Q (.ref s.heap.objs.size) { s with heap := h', toks := tk }) :
    wpAny (model P w) A (call (.type "set") [.ref l]) Q E s := by
  obtain ⟨c, tl, hmro⟩ := F.called_set.mro
  have hmade := F.called_set.made
  have hsub := F.called_set.sub
  refine wpAny_call (codeAny_of_tree ?_)
  show wpAny _ _ (callAny (.type "set") _) _ _ _
  refine wpAny_pure ⟨Code.quiet_builtin _ (by decide +kernel), codeAny_builtin F.entry_type_call ?_⟩
  rw [Around.under_plain (weight_type_call_type "set" [.ref l] []) rfl]
  have h1 := F.called_set.notType
  have h2 := F.called_set.canCreate
  have hct := F.typeCall_set_1 (.ref l)
  repeat (any_goals (first | assumption | wp_step))
  refine codeAny_mono (code_set_led1 (.ref l) (E := E) (Q₁ := fun obj s₁ => obj = .ref s.heap.objs.size ∧ s₁ = { s with heap := s.heap.push (set0 w) }) ⟨rfl, rfl⟩) fun r s₁ hr => ?_
  cases r with
  | error e => exact hr
  | ok fl =>
    cases fl with
    | ret obj =>
      obtain ⟨rfl, rfl⟩ := hr
      have hS : (s.heap.push (set0 w)).get? s.heap.objs.size = some (set0 w) := Heap.get?_push_size _ rfl
      have hT : Shared.TypeIs { s with heap := s.heap.push (set0 w) } (.ref s.heap.objs.size) "set" := ⟨_, hS, rfl⟩
      have hli := F.called_set.init.lookup
      have hbi := F.called_set.init.bind (.ref s.heap.objs.size)
      repeat (any_goals (first | assumption | wp_step))
      refine codeAny_mono (codeAny_call_builtin (R := wants (fun r s₂ => r = .none ∧ ∃ h' tk, s₂ = { s with heap := h', toks := tk } ∧ KsAt P w s.heap.objs.size (addKs [] ks) h' ∧
          (∀ b o, s.heap.get? b = some o → h'.get? b = some o)) E) F.called_set.init.plain F.entry_set_init (check_set_init_1 hT ?_)) fun r₂ s₂ hr₂ => ?_
      · obtain ⟨ol, hol, hcl, nl, hdl⟩ := hl
        obtain ⟨ocls, odict, odata, oslots⟩ := ol
        simp only at hcl hdl
        subst hcl; subst hdl
        have hol' : (s.heap.push (set0 w)).get? l = some { cls := .type "list", dict := odict, data := .seq items nl, slots := oslots } := Heap.get?_push_of_some _ hol
        have hsls := F.sub_list_set
        have hslf := F.sub_list_frozenset
        have hne : (Value.type "list" == Value.type "dict") = false := by decide
        have hl1 : (s.heap.push (set0 w)).IsList l items := ⟨_, hol', rfl, nl, rfl⟩
        unfold Builtin.«set.__init__» noKeywords Builtin.Frozenset.updateFrom
        generalize hPI : pyIter = PI
        wp_walk
        subst hPI
        refine wpAny_pyIter_list hl1 ?_
        refine wpAny_bind (wpAny_runValue ?_)
        have hlS : l < s.heap.objs.size := Heap.lt_size hol
        have hh3 : A.in1.in1.in1.handled = none := by simp [hh]
        have hz1 : (s.heap.push (set0 w)).objs.size = s.heap.objs.size + 1 := Heap.size_push ..
        have hneI : l ≠ (s.heap.push (set0 w)).objs.size := by
          rw [Heap.size_push]; exact Nat.ne_of_lt (Nat.lt_succ_of_lt hlS)
        have hSf : s.heap.objs.size ∉ [(s.heap.push (set0 w)).objs.size, l] := by
          rw [Heap.size_push]; simp only [List.mem_cons, List.mem_singleton, List.not_mem_nil, or_false, not_or]
          exact ⟨Nat.ne_of_lt (Nat.lt_succ_self _), Nat.ne_of_gt hlS⟩
        have hget : ((s.heap.push (set0 w)).push { cls := .type "list_iterator", data := .fields #[.ref l, .int 0 0] }).get? s.heap.objs.size = some (set0 w) := Heap.get?_push_of_some _ hS
        refine set_update_ks ((Walks.list hh3 _ l hneI items).toS) s.heap.objs.size
          hSf ks hlen hfew hk (items.size - 0) 0 _ (by omega) (Nat.zero_le _)
          ⟨⟨_, Heap.get?_push_size _ rfl, rfl, rfl⟩, (hl1.push _)⟩ ?hS0 ?hR
        case hS0 =>
          exact ⟨List.nodup_nil, fun _ => false, ⟨_, #[], 0, _, hget, ⟨rfl, rfl, rfl⟩, rfl, (fun e he => by simp at he), (fun k => by simp), (by decide), (by rfl), rfl⟩, fun k => rfl⟩
        case hR =>
          intro s' hm hS'
          obtain ⟨h', g2, d', tk', os'⟩ := s'
          have eg : g2 = s.gens := hm.gens
          have ed : d' = s.drawn := hm.drawn
          have eo : os' = s.os := hm.os
          subst eg; subst ed; subst eo
          show wpAny _ _ _ _ _ _
          refine wpAny_pure ?_
          show wpAny _ _ (ret Value.none) _ _ _
          refine wpAny_pure ⟨rfl, h', tk', rfl, hS', fun b o e => ?_⟩
          have hb0 : b < s.heap.objs.size := Heap.lt_size e
          have hb1 : b ≠ s.heap.objs.size := Nat.ne_of_lt hb0
          have hb2 : b ≠ (s.heap.push (set0 w)).objs.size := by
            rw [Heap.size_push]; exact Nat.ne_of_lt (Nat.lt_succ_of_lt hb0)
          exact hm.heap b o (by simp only [List.mem_cons, List.mem_singleton, List.not_mem_nil, or_false, not_or]; exact ⟨hb1, hb2⟩) (Heap.get?_push_of_some _ (Heap.get?_push_of_some _ e))
      · cases r₂ with
        | error e => exact hr₂
        | ok fl₂ =>
          cases fl₂ with
          | ret r =>
            obtain ⟨rfl, h', tk, rfl, hS', hk'⟩ := hr₂
            repeat (any_goals (first | assumption | wp_step))
            exact h _ _ hS' hk'
          | _ => exact hr₂.elim
    | _ => exact hr.elim

theorem call_set_ksT {l : Addr} {items : Array Value} (ks : List (Option Key)) {Q : Value → Shared → Prop} (hh : A.handled = none) (hl : s.heap.IsTuple l items) (hlen : items.size = ks.length)
    (hk : ∀ (i : Nat) (v : Value), items[i]? = some v → ∃ k, ks[i]? = some k ∧ (noneKind P w).is k v = true ∧ v.scannable = true) (hfew : ks.length + 1 < scanBound)
    (h : ∀ (h' : Heap) (tk : Nat), KsAt P w s.heap.objs.size (addKs [] ks) h' → (∀ b o, s.heap.get? b = some o → h'.get? b = some o) → Q (.ref s.heap.objs.size) { s with heap := h', toks := tk }) :
    wpAny (model P w) A (call (.type "set") [.ref l]) Q E s := by
  obtain ⟨c, tl, hmro⟩ := F.called_set.mro
  have hmade := F.called_set.made
  have hsub := F.called_set.sub
  refine wpAny_call (codeAny_of_tree ?_)
  show wpAny _ _ (callAny (.type "set") _) _ _ _
  refine wpAny_pure ⟨Code.quiet_builtin _ (by decide +kernel), codeAny_builtin F.entry_type_call ?_⟩
  rw [Around.under_plain (weight_type_call_type "set" [.ref l] []) rfl]
  have h1 := F.called_set.notType
  have h2 := F.called_set.canCreate
  have hct := F.typeCall_set_1 (.ref l)
  repeat (any_goals (first | assumption | wp_step))
  refine codeAny_mono (code_set_led1 (.ref l) (E := E) (Q₁ := fun obj s₁ => obj = .ref s.heap.objs.size ∧ s₁ = { s with heap := s.heap.push (set0 w) }) ⟨rfl, rfl⟩) fun r s₁ hr => ?_
  cases r with
  | error e => exact hr
  | ok fl =>
    cases fl with
    | ret obj =>
      obtain ⟨rfl, rfl⟩ := hr
      have hS : (s.heap.push (set0 w)).get? s.heap.objs.size = some (set0 w) := Heap.get?_push_size _ rfl
      have hT : Shared.TypeIs { s with heap := s.heap.push (set0 w) } (.ref s.heap.objs.size) "set" := ⟨_, hS, rfl⟩
      have hli := F.called_set.init.lookup
      have hbi := F.called_set.init.bind (.ref s.heap.objs.size)
      repeat (any_goals (first | assumption | wp_step))
      refine codeAny_mono (codeAny_call_builtin (R := wants (fun r s₂ => r = .none ∧ ∃ h' tk, s₂ = { s with heap := h', toks := tk } ∧ KsAt P w s.heap.objs.size (addKs [] ks) h' ∧
          (∀ b o, s.heap.get? b = some o → h'.get? b = some o)) E) F.called_set.init.plain F.entry_set_init (check_set_init_1 hT ?_)) fun r₂ s₂ hr₂ => ?_
      · obtain ⟨ol, hol, hcl, nl, hdl⟩ := hl
        obtain ⟨ocls, odict, odata, oslots⟩ := ol
        simp only at hcl hdl
        subst hcl; subst hdl
        have hol' : (s.heap.push (set0 w)).get? l = some { cls := .type "tuple", dict := odict, data := .seq items nl, slots := oslots } := Heap.get?_push_of_some _ hol
        have hsls := F.sub_tuple_set
        have hslf := F.sub_tuple_frozenset
        have hne : (Value.type "tuple" == Value.type "dict") = false := by decide
        have hl1 : (s.heap.push (set0 w)).IsTuple l items := ⟨_, hol', rfl, nl, rfl⟩
        unfold Builtin.«set.__init__» noKeywords Builtin.Frozenset.updateFrom
        generalize hPI : pyIter = PI
        wp_walk
        subst hPI
        refine wpAny_pyIter_tuple hl1 ?_
        refine wpAny_bind (wpAny_runValue ?_)
        have hlS : l < s.heap.objs.size := Heap.lt_size hol
        have hh3 : A.in1.in1.in1.handled = none := by simp [hh]
        have hz1 : (s.heap.push (set0 w)).objs.size = s.heap.objs.size + 1 := Heap.size_push ..
        have hneI : l ≠ (s.heap.push (set0 w)).objs.size := by
          rw [Heap.size_push]; exact Nat.ne_of_lt (Nat.lt_succ_of_lt hlS)
        have hSf : s.heap.objs.size ∉ [(s.heap.push (set0 w)).objs.size, l] := by
          rw [Heap.size_push]; simp only [List.mem_cons, List.mem_singleton, List.not_mem_nil, or_false, not_or]
          exact ⟨Nat.ne_of_lt (Nat.lt_succ_self _), Nat.ne_of_gt hlS⟩
        have hget : ((s.heap.push (set0 w)).push { cls := .type "tuple_iterator", data := .fields #[.ref l, .int 0 0] }).get? s.heap.objs.size = some (set0 w) := Heap.get?_push_of_some _ hS
        refine set_update_ks ((Walks.tuple hh3 _ l hneI items).toS) s.heap.objs.size
          hSf ks hlen hfew hk (items.size - 0) 0 _ (by omega) (Nat.zero_le _)
          ⟨⟨_, Heap.get?_push_size _ rfl, rfl, rfl⟩, (hl1.push _)⟩ ?hS0 ?hR
        case hS0 =>
          exact ⟨List.nodup_nil, fun _ => false, ⟨_, #[], 0, _, hget, ⟨rfl, rfl, rfl⟩, rfl, (fun e he => by simp at he), (fun k => by simp), (by decide), (by rfl), rfl⟩, fun k => rfl⟩
        case hR =>
          intro s' hm hS'
          obtain ⟨h', g2, d', tk', os'⟩ := s'
          have eg : g2 = s.gens := hm.gens
          have ed : d' = s.drawn := hm.drawn
          have eo : os' = s.os := hm.os
          subst eg; subst ed; subst eo
          show wpAny _ _ _ _ _ _
          refine wpAny_pure ?_
          show wpAny _ _ (ret Value.none) _ _ _
          refine wpAny_pure ⟨rfl, h', tk', rfl, hS', fun b o e => ?_⟩
          have hb0 : b < s.heap.objs.size := Heap.lt_size e
          have hb1 : b ≠ s.heap.objs.size := Nat.ne_of_lt hb0
          have hb2 : b ≠ (s.heap.push (set0 w)).objs.size := by
            rw [Heap.size_push]; exact Nat.ne_of_lt (Nat.lt_succ_of_lt hb0)
          exact hm.heap b o (by simp only [List.mem_cons, List.mem_singleton, List.not_mem_nil, or_false, not_or]; exact ⟨hb1, hb2⟩) (Heap.get?_push_of_some _ (Heap.get?_push_of_some _ e))
      · cases r₂ with
        | error e => exact hr₂
        | ok fl₂ =>
          cases fl₂ with
          | ret r =>
            obtain ⟨rfl, h', tk, rfl, hS', hk'⟩ := hr₂
            repeat (any_goals (first | assumption | wp_step))
            exact h _ _ hS' hk'
          | _ => exact hr₂.elim
    | _ => exact hr.elim
end
def plD : D → Option (Option Key)
  | .non => some none
  | .int i => some (some (.inl i))
  | .str x => some (some (.inr x))
  | _ => none
theorem plD_v {H : Hp} {Ex : Addr → Prop} {v : V} {d : D} {k : Option Key} (h : Dq H Ex v d) (e : plD d = some k) : scV v = some k := by
  cases h <;> first | exact e | cases e
theorem plD_l {H : Hp} {Ex : Addr → Prop} : ∀ {vs : List V} {ds : List D} {ks : List (Option Key)}, DqL H Ex vs ds → ds.mapM plD = some ks → vs.map scV = ks.map some
  | _, _, ks, .nil, e => by
    cases (show some [] = some ks from e)
    rfl
  | _, _, ks, .cons (d := d) (ds := ds) h t, e => by
    rw [List.mapM_cons] at e
    cases e1 : plD d with
    | none => rw [e1] at e; cases e
    | some k =>
      rw [e1] at e
      cases e2 : ds.mapM plD with
      | none => rw [e2] at e; cases e
      | some ks' =>
        rw [e2] at e
        cases e
        rw [List.map_cons, List.map_cons, plD_v h e1, plD_l t e2]
theorem scV_at {P : Program} {w : World} {vs : List V} {ks : List (Option Key)} {its : Array Value} (e : vs.map scV = ks.map some) (r : Vals vs its.toList) : its.size = ks.length ∧ ∀ (i : Nat) (v : Value), its[i]? = some v → ∃ k, ks[i]? = some k ∧ (noneKind P w).is k v = true ∧ v.scannable = true := by
  have hl : vs.length = ks.length := by simpa using congrArg List.length e
  refine ⟨?_, fun i v hv => ?_⟩
  · rw [← Array.length_toList, ← r.length]
    exact hl
  · have hv' : its.toList[i]? = some v := by rw [Array.getElem?_toList]; exact hv
    have hi : i < vs.length := by
      rw [r.length]
      exact (List.getElem?_eq_some_iff.mp hv').1
    have hy : vs[i]? = some vs[i] := List.getElem?_eq_getElem hi
    obtain ⟨u, hu, ry⟩ := L2.Vals.get r hy
    rw [hv'] at hu
    cases hu
    have q := congrArg (fun l => l[i]?) e
    simp only [List.getElem?_map, hy, Option.map_some] at q
    cases ek : ks[i]? with
    | none => rw [ek] at q; cases q
    | some k =>
      rw [ek] at q
      exact ⟨k, rfl, scV_is ry (Option.some.inj q)⟩
section
variable {X : Cx}
theorem cr_setKs (hc : X.calm = true) : CallR X (.type "set") (fun vs H Q => ∃ (l : Addr) (xs : List V) (ks : List (Option Key)), vs = [.ref l] ∧ (SqL X.K H l xs ∨ SqT X.K H l xs) ∧ xs.map scV = ks.map some ∧ ks.length + 1 < scanBound ∧
    ∀ p, H p = none → Q (.ref p) (upd H p (.ext (KsAt X.prog X.w p (addKs [] ks))))) := by
  intro pins s σ H xs us Q I r h
  obtain ⟨l, ys, ks, rfl, hl, hk, hf, q⟩ := h
  rw [Vals.ref1 r]
  have hn : H s.heap.objs.size = none := I.hok.fresh (Nat.le_refl _)
  rcases hl with hl | hl
  · obtain ⟨its, rv, pl, hz⟩ := I.list hl
    obtain ⟨e1, e2⟩ := scV_at (P := X.prog) (w := X.w) (its := its.toArray) hk (by simpa using rv)
    refine call_set_ksL (P := X.prog) (w := X.w) ks (I.ok.hd hc) pl.isList e1 e2 hf fun h' tk R k => ?_
    exact ⟨.ref s.heap.objs.size, _, I.laid (t' := tk) k (Nat.le_refl _) (ksAt_ok R), rfl, q _ hn⟩
  · obtain ⟨its, rv, pl, hz⟩ := I.tuple hl
    obtain ⟨e1, e2⟩ := scV_at (P := X.prog) (w := X.w) (its := its.toArray) hk (by simpa using rv)
    refine call_set_ksT (P := X.prog) (w := X.w) ks (I.ok.hd hc) pl e1 e2 hf fun h' tk R k => ?_
    exact ⟨.ref s.heap.objs.size, _, I.laid (t' := tk) k (Nat.le_refl _) (ksAt_ok R), rfl, q _ hn⟩
variable {R : RQ} {W : Wo} {e : Expr} {te : DT W} {p pos : Pos}
/-- set(e) -/
def dSetOf {W : Wo} (P : Program) (w : World) (te : DT W) : DT W := fun ρ ω Q => te ρ ω fun d ω1 => ∃ ds ks, (d = .lst ds ∨ d = .tup ds) ∧ ds.mapM plD = some ks ∧ ks.length < 4000 ∧ Q (ksD P w (addKs [] ks)) ω1
theorem de_setOf [Stab R] (hc : X.calm = true) (hg : Gl X "set") (hm : X.mg "set" = none) (ha : DX R X W e te) (he : starEach [e] X.env = (false, eval e X.env) :: starEach [] X.env := by rfl) (hpl : (backTo pos (starEach [] X.env)).any (·.1) = false := by rfl) :
    DE X W (.Call (.Name "set" p) [e] [] pos) (dSetOf X.prog X.w te) := by
  refine DX.of (pe_callTy (cr_setKs hc) hg hm (by decide +kernel) (pa_cons ha.pe pa_nil he) (by decide) (by decide) he hpl) fun B Ex ρ ω σ H Q rep q => ⟨B, Ex, ρ, ω, _, rep, q, fun d ω1 v H1 ⟨ds, ks, hd, e1, hl, q1⟩ k1 w1 z1 => ?_⟩
  have z := Stab.bq z1
  have r1 := rep.go k1 w1
  have fin : ∀ p, H1 p = none → Post Cl W Ex H Q (.ref p) (upd H1 p (.ext (KsAt X.prog X.w p (addKs [] ks)))) := fun p n =>
    ⟨_, ω1, k1.trans (Kp.same (same_upd n)), W.gr w1 (same_upd n), .ext (φ := fun a _ h => KsAt X.prog X.w a (addKs [] ks) h) (vs := []) upd_same (r1.new n) .nil, q1⟩
  have hf : ks.length + 1 < scanBound := by have : scanBound = 4096 := rfl; omega
  rcases hd with rfl | rfl
  · obtain ⟨a, vs, rfl, h1, h2⟩ := z.ofL
    exact ⟨a, vs, ks, rfl, .inl (SqL.of h1), plD_l h2 e1, hf, fin⟩
  · obtain ⟨a, vs, rfl, h1, _, h2⟩ := z.ofT
    exact ⟨a, vs, ks, rfl, .inr h1.sq, plD_l h2 e1, hf, fin⟩
end
end Tk

namespace Tk
open PySem PySem.Spec PyProof.Rows L2 LamX

/-! ## a def whose code object is told -/
structure FunC (K : PySem.W.Frag) (x qual : Str) (st : Stmt) (f c : Addr) (fd : FuncData) : Prop where
  ex : ∃ (oc : Value) (od : Option Addr) (kV doc pm : Value) (an : Option Addr) (ct : Value) (osl : Array (Option Value)),
    fd = PySem.W.fnOf x qual (defArgs st) (defBody st) (defScope st) .none kV doc pm an (.ref c) ct ∧ K.lookup f = some ⟨oc, od, .func fd, osl⟩ ∧ PySem.W.codeIn K (.ref c) qual = true
theorem okGc {P : Program} {w : World} {K : PySem.W.Frag} {mg : Str → Option Value} {base : Heap}
    {x qual : Str} {st : Stmt} {f c : Addr} {fd : FuncData} {N ps : List Str} {k : Nat} {sp : Sp}
    (F : FunC K x qual st f c fd) (S : FnScope N ps (defScope st))
    (len : ∀ vs H Q E, sp vs H Q E → vs.length = ps.length)
    (hbody : ∀ (A : Around) (outer : List Env) (s : Shared) (H : Hp) (vs : List V)
      (Q : VK) (E : XK), Gd A → Room k (A.deeper (envOfC qual (defScope st) s.heap.objs.size f (.ref c))) →
      sp vs H Q E → ∃ t, PSs (cxOf CX0 P w K mg base N qual (defScope st) f (.ref c) A outer s H E).nox (defBody st) t ∧
        t { nx := fun _ H' => Q .non H', rt := Q } (start N vs) H) :
    FnG P w K mg base CX0 (k + 1) f fd ps sp := by
  obtain ⟨oc, od, kV, doc, pm, an, ct, osl, e, lk, hcd⟩ := F.ex
  subst e
  refine fnG_of lk hcd S len ?_
  intro A outer s H vs Q E g hr q
  obtain ⟨t, h, z⟩ := hbody A outer s H vs Q E g hr q
  exact ⟨t, h.nox, z⟩
theorem tab_code {K : PySem.W.Frag} {x : Str} {f c P : Addr} {oc : Value} {od : Option Addr} {fd : FuncData} {osl : Array (Option Value)} (a : PySem.W.nsIn K mainGlobals x = some (some (.ref f))) (l : K.lookup f = some ⟨oc, od, .func fd, osl⟩) (ht : PySem.W.tabIn K x = some (c, P)) : fd.code = .ref c := by
  unfold PySem.W.tabIn at ht
  rw [a] at ht
  simp only [l] at ht
  split at ht
  · rename_i c2 hc
    split at ht
    · split at ht
      · cases ht; exact hc
      · cases ht
    · cases ht
  · cases ht

/-! ## the law's def, with tables of code objects -/
theorem law_callTG {P : Program} {w : World} {K : PySem.W.Frag} {mg mb : Str → Option Value} {k : Nat} {fa a : Addr} {cs : List (Addr × Addr)} {fd : FuncData} {x : Str} {sp : Sp} {s₁ : Shared} {vs : List Value} {ns : List Int}
    (KX : K.In s₁.heap) (hns : s₁.heap.Ns mainGlobals mg) (hb : s₁.heap.Ns builtinsNs mb) (hbb : ∀ x : Str, x ≠ "__name__" → mb x = bootBuiltins x) (hlim : s₁.heap.NoLimit) (hsy : ∃ mm, s₁.heap.Ns sysModules mm) (hg : s₁.gens = #[])
    (hT : ∀ p ∈ cs, s₁.heap.get? p.2 = some { cls := .none, data := .fields #[] }) (nT : ∀ p ∈ cs, K.lookup p.2 = none) (C : ∀ p ∈ cs, PySem.W.CodeHd s₁.heap p.1 p.2)
    (hbm : ∃ (bm : Addr) (ob : Obj), mg "__builtins__" = some (.ref bm) ∧ bm ≠ builtinsNs ∧ s₁.heap.get? bm = some ob ∧ ob.cls = .type "module" ∧ ob.dict = some builtinsNs ∧ ob.data = .plain)
    (ha : s₁.heap.get? a = some { cls := .type "list", data := .seq vs.toArray }) (hi : IntsAre vs ns) (hl : ns.length ≤ sizeLine) (hr : Room k callerA)
    (F : ∀ base : Heap, K.In base → base.Ns mainGlobals mg → BaseS base → (∀ p ∈ cs, TabB base mg p.1 p.2) → FnG P w K mg base CX0 k fa fd [x] sp) (hbind : ∀ (s : Shared) (u : Value), BindsTo s fd ⟨[u], []⟩ [(x, u)])
    (hsp : ∀ H : Hp, (∀ p ∈ cs, H p.2 = some (.tbl #[])) → SqL K H a (ns.map V.int) → sp [.ref a] H (fun v _ => v = .bl true) fun _ _ _ => False) :
    codeAny (model P w) callerA (.call (.ref fa) ⟨[.ref a], []⟩) (fun r s' => r = .ok (.ret (.bool true)) ∧ OldK s₁.heap s'.heap ∧ s'.os = s₁.os ∧ AllBare s'.gens) s₁ := by
  have rv := vals_ints hi
  have lenV := hi.length
  have isT : ∀ b : Addr, b ∈ cs.map (·.2) → s₁.heap.get? b = some { cls := .none, data := .fields #[] } := fun b hb => by
    obtain ⟨p, hp, e⟩ := List.mem_map.mp hb
    rw [← e]
    exact hT p hp
  have aT : a ∉ cs.map (·.2) := fun z => by
    have q := isT a z
    rw [ha] at q
    have z' : Data.seq vs.toArray _ = Data.fields #[] := congrArg Obj.data (Option.some.inj q)
    cases z'
  have memT : ∀ p ∈ cs, p.2 ∈ cs.map (·.2) := fun p hp => List.mem_map.mpr ⟨p, hp, rfl⟩
  have core : ∀ H : Hp, (∀ p ∈ cs, H p.2 = some (.tbl #[])) → (∀ b, H b = none ∨ b ∈ cs.map (·.2) ∨ ∃ o xs, H b = some (.frz o (.lst xs))) → SqL K H a (ns.map V.int) → HOk P w H s₁.heap → (∀ b, H b ≠ none → b = a ∨ b ∈ cs.map (·.2)) → (H a ≠ none → K.lookup a = none) →
      codeAny (model P w) callerA (.call (.ref fa) ⟨[.ref a], []⟩) (fun r s' => r = .ok (.ret (.bool true)) ∧ OldK s₁.heap s'.heap ∧ s'.os = s₁.os ∧ AllBare s'.gens) s₁ := by
    intro H hH hO hS hok hA hK
    have base_of : ∀ {b : Addr} {o : Obj}, s₁.heap.get? b = some o → H b = none → (hidT s₁.heap H).get? b = some o := fun e n => hidT_get e n
    have noD : ∀ {b : Addr} {o : Obj}, s₁.heap.get? b = some o → (∀ vs n, o.data ≠ .seq vs n) → o.data ≠ .fields #[] → H b = none := fun {b o} e h1 h2 => by
      cases q : H b with
      | none => rfl
      | some u =>
        rcases hA b (by rw [q]; simp) with e' | e'
        · rw [e', ha] at e
          cases e
          exact (h1 _ _ rfl).elim
        · rw [isT b e'] at e
          cases e
          exact (h2 rfl).elim
    have noA : ∀ {b : Addr} {o : Obj} {es : Array DictEntry} {ep : Nat}, s₁.heap.get? b = some o → o.data = .dict es ep → H b = none := fun {b o es ep} e d => by
      refine noD e (fun vs n z => ?_) fun z => ?_
      · rw [d] at z
        cases z
      · rw [d] at z
        cases z
    have nsK : ∀ {b : Addr} {m : Str → Option Value}, s₁.heap.Ns b m → (hidT s₁.heap H).Ns b m := fun {b m} ⟨o, es, ep, e, d, r⟩ => ⟨o, es, ep, base_of e (noA e d), d, r⟩
    have hKb : K.In (hidT s₁.heap H) := fun b o e => base_of (KX b o e) (by
      cases q : H b with
      | none => rfl
      | some u =>
        rcases hA b (by rw [q]; simp) with e' | e'
        · rw [e'] at e q
          rw [hK (by rw [q]; simp)] at e
          cases e
        · obtain ⟨p, hp, ep⟩ := List.mem_map.mp e'
          rw [← ep, nT p hp] at e
          cases e)
    have hM : L2.Mod K mg (hidT s₁.heap H) := ⟨hKb, nsK hns, ⟨mb, nsK hb, hbb⟩, let ⟨mc, h1, h2⟩ := hlim; ⟨mc, nsK h1, h2⟩⟩
    have hS2 : BaseS (hidT s₁.heap H) := by
      obtain ⟨mm, h⟩ := hsy
      obtain ⟨o, es, ep, e, _⟩ := nsK h
      exact ⟨o, e⟩
    have TB : ∀ p ∈ cs, TabB (hidT s₁.heap H) mg p.1 p.2 := fun p hp => by
      have hTp := hT p hp
      refine ⟨?_, ?_, fun z => ?_⟩
      · obtain ⟨o, us, file, tf, flags, tg, inF, text, tt, e1, r1, r2, r3, r4, r5, r6, r7, r8, hne⟩ := C p hp
        refine ⟨o, us, file, tf, flags, tg, inF, text, tt, base_of e1 (noD e1 (fun vs n z => ?_) fun z => ?_), r1, r2, r3, r4, r5, r6, r7, r8, hne⟩
        · rw [r2] at z
          cases z
        · rw [r2] at z
          cases z
          simp at r3
      · obtain ⟨bm, ob, b1, b2, b3, b4, b5, b6⟩ := hbm
        have nG : bm ≠ mainGlobals := fun q => by
          obtain ⟨o, es, ep, e, hd, _⟩ := hns
          rw [q, e] at b3
          cases b3
          rw [hd] at b6
          cases b6
        have nP : bm ≠ p.2 := fun q => by
          rw [q, hTp] at b3
          cases b3
          cases b6
        refine ⟨bm, ob, b1, b2, nG, nP, base_of b3 (noD b3 (fun vs n z => ?_) fun z => ?_), b4, b5, b6⟩
        · rw [b6] at z
          cases z
        · rw [b6] at z
          cases z
      · obtain ⟨o, es, ep, e, hd, _⟩ := hns
        rw [z, hTp] at e
        cases e
        cases hd
    have e0 : Env0 P w K mg (hidT s₁.heap H) callerA [] s₁ H := ⟨rfl, hM, fun b o e => of_hidT e, Nat.le_of_eq (hidT_size _ _), trivial, fun b hb => absurd (show b ∈ ([] : List Addr) from hb) (by simp), hok, .of_eq hg⟩
    refine codeAny_mono ((F _ hKb (nsK hns) hS2 TB).run callerA [] s₁ H ⟨[.ref a], []⟩ [.ref a] [.ref a] _ _ rfl hr e0 (hbind s₁ (.ref a)) (.cons rfl .nil) (hsp H hH hS)) fun r s' h => ?_
    cases r with
    | error e => exact False.elim h
    | ok fl =>
      cases fl with
      | next => exact False.elim h
      | brk => exact False.elim h
      | cont => exact False.elim h
      | ret u =>
        obtain ⟨v, H', os, bare, un, hok', r', q⟩ := h
        have q' : v = .bl true := q
        subst q'
        obtain rfl : u = Value.bool true := r'
        have key : ∀ b o, b ∉ cs.map (·.2) → s₁.heap.get? b = some o → s'.heap.get? b = some o := fun b o nb e => by
          cases q : H b with
          | none => exact un.keep b o e q (by intro z; exact absurd (show b ∈ ([] : List Addr) from z) (by simp)) (by simp)
          | some u =>
            rcases hO b with z | z | ⟨ob, xs, z⟩
            · rw [q] at z; cases z
            · exact absurd z nb
            · have z2 := un.frzs b ob _ z
              obtain ⟨e1, _⟩ := hok b _ z
              obtain ⟨e2, _⟩ := hok' b _ z2
              rw [e] at e1; cases e1
              exact e2
        have grown : ∀ p ∈ cs, ∃ more : Array Value, s'.heap.get? p.2 = some { cls := .none, data := .fields more } := fun p hp => by
          obtain ⟨more, z⟩ := un.tbls p.2 #[] (hH p hp)
          exact ⟨_, hok' p.2 _ z⟩
        refine ⟨rfl, ⟨fun b o e => ?_, fun b o e => ?_⟩, os, bare⟩
        · by_cases hb : b ∈ cs.map (·.2)
          · obtain ⟨p, hp, ep⟩ := List.mem_map.mp hb
            obtain ⟨more, hm⟩ := grown p hp
            rw [← ep] at e ⊢
            rw [hT p hp] at e
            cases e
            exact .inr (.inl ⟨((C p hp).tab (hT p hp)).isCodeTable, rfl, #[], more, rfl, by rw [Array.empty_append]; exact hm⟩)
          · exact .inl (key b o hb e)
        · by_cases hb : b ∈ cs.map (·.2)
          · obtain ⟨p, hp, ep⟩ := List.mem_map.mp hb
            obtain ⟨more, hm⟩ := grown p hp
            rw [← ep]
            exact ⟨_, hm⟩
          · exact ⟨o, key b o hb e⟩
  cases hk : K.lookup a with
  | some o =>
    have e := KX a o hk
    rw [ha] at e
    cases e
    refine core (fun b => if b ∈ cs.map (·.2) then some (.tbl #[]) else none) (fun p hp => if_pos (memT p hp)) (fun b => ?_) (.inr ⟨_, vs.toArray, _, hk, rfl, rfl, rfl, by rw [List.size_toArray, lenV]; exact hl, by simpa using rv⟩) (fun b u z => ?_) (fun b z => ?_) fun z => absurd (show (if a ∈ cs.map (·.2) then some (HO.tbl #[]) else none) = none from if_neg aT) z
    · by_cases hb : b ∈ cs.map (·.2)
      · exact .inr (.inl hb)
      · exact .inl (if_neg hb)
    · by_cases hb : b ∈ cs.map (·.2)
      · have z' := (if_pos hb).symm.trans z
        cases z'
        exact isT b hb
      · have z' := (if_neg hb).symm.trans z
        cases z'
    · by_cases hb : b ∈ cs.map (·.2)
      · exact .inr hb
      · exact absurd (if_neg hb) z
  | none =>
    refine core (fun b => if b = a then some (.frz { cls := .type "list", data := .seq vs.toArray } (.lst (ns.map V.int))) else if b ∈ cs.map (·.2) then some (.tbl #[]) else none) (fun p hp => (if_neg (show ¬ p.2 = a from fun z => aT (by rw [← z]; exact memT p hp))).trans (if_pos (memT p hp))) (fun b => ?_)
      (.inl (.inr ⟨{ cls := .type "list", data := .seq vs.toArray }, if_pos rfl⟩)) (fun b u z => ?_) (fun b z => ?_) fun _ => hk
    · by_cases hb : b = a
      · exact .inr (.inr ⟨_, _, if_pos hb⟩)
      · by_cases hb2 : b ∈ cs.map (·.2)
        · exact .inr (.inl hb2)
        · exact .inl ((if_neg hb).trans (if_neg hb2))
    · by_cases hb : b = a
      · have z' := (if_pos hb).symm.trans z
        cases z'
        rw [hb]
        exact ⟨ha, by rw [List.length_map]; exact hl, vs, _, rv, ha⟩
      · have z1 := (if_neg hb).symm.trans z
        by_cases hb2 : b ∈ cs.map (·.2)
        · have z' := (if_pos hb2).symm.trans z1
          cases z'
          exact isT b hb2
        · have z' := (if_neg hb2).symm.trans z1
          cases z'
    · by_cases hb : b = a
      · exact .inl hb
      · by_cases hb2 : b ∈ cs.map (·.2)
        · exact .inr hb2
        · exact absurd ((if_neg hb).trans (if_neg hb2)) z
/-- a law that ends True, its own table still empty -/
def lawSpT (K : PySem.W.Frag) (P : Addr) : Sp := fun vs H Q _ => ∃ (a : Addr) (ns : List Int), vs = [.ref a] ∧ SqL K H a (ns.map V.int) ∧ H P = some (.tbl #[]) ∧ ∀ H', Q (.bl true) H'
theorem walkT {l : PySem.W.OpenLaw} {n k : Nat} {q : Program} {loose : List Str} {XP : (Str → Option Value) → Heap → Prop} {YP : World → Heap → Prop} {d d' : DefRec} {K : Params → PySem.W.Frag} {x : Str}
    (hn : l.most = some n) (hn2 : n ≤ sizeLine) (hdf : d.params.defaults = []) (hr : Room k callerA) (hq : importsNone q = true)
    (hY : ∀ (w : World) (h : Heap), YP w h → (K w.params).In h) (hrec : (recsOf q).find? (fun e => e.name == d.name) = some d')
    (hS : ∀ w : World, (match PySem.W.tabIn (K w.params) d.name with | some p => ((K w.params).lookup p.2).isNone | none => false) = true)
    (F : ∀ (w : World) (mg : Str → Option Value) (fa : Addr) (h : Heap) (c P : Addr), (K w.params).In h → h.Ns mainGlobals mg → mg d.name = some (.ref fa) → PySem.W.tabIn (K w.params) d.name = some (c, P) →
      ∃ fd : FuncData, (∀ (s : Shared) (u : Value), BindsTo s fd ⟨[u], []⟩ [(x, u)]) ∧
        ∀ base : Heap, (K w.params).In base → base.Ns mainGlobals mg → BaseS base → TabB base mg c P → FnG l.prog w (K w.params) mg base CX0 k fa fd [x] (lawSpT (K w.params) P)) :
    PySem.W.WalkO q loose XP YP l.row.toRowW d [] (fun f vs => PySem.call f vs) := by
  refine Att.attach_call hn hdf ?_
  intro w s0 s1 mg mb fa o pm cd doc a vs ns G Y ho hd hcd hmg hobj hints hlen hg
  have KX := hY w _ Y
  have h1 := hS w
  cases e : PySem.W.tabIn (K w.params) d.name with
  | none => rw [e] at h1; cases h1
  | some p =>
    obtain ⟨c, P⟩ := p
    rw [e] at h1
    have nP : (K w.params).lookup P = none := by
      cases z : (K w.params).lookup P with
      | none => rfl
      | some o => simp only [z] at h1; cases h1
    obtain ⟨hC, hT⟩ := PySem.W.tab_of G.T KX hrec e
    obtain ⟨fd, hb, hF⟩ := F w mg fa _ c P KX G.T.g hmg e
    have hsy : ∃ mm, s1.heap.Ns sysModules mm := by
      obtain ⟨mm, h, _⟩ := (G.T.seer hq).mods
      exact ⟨mm, h⟩
    exact law_callTG (cs := [(c, P)]) KX G.T.g G.T.b G.T.builtins G.T.nolimit hsy hg (fun p hp => by rw [List.mem_singleton.mp hp]; exact hT) (fun p hp => by rw [List.mem_singleton.mp hp]; exact nP) (fun p hp => by rw [List.mem_singleton.mp hp]; exact hC)
      G.T.bmain hobj hints (Nat.le_trans hlen hn2) hr (fun base h1 h2 h3 h4 => hF base h1 h2 h3 (h4 _ (List.mem_singleton.mpr rfl))) hb fun H hH hS => ⟨a, ns, rfl, hS, hH _ (List.mem_singleton.mpr rfl), fun _ => rfl⟩
/-- the rest of such a law, once the pen is made -/
theorem pen_goT {P : Addr} {q : Str} {t : ∀ p, DTS (TabW (PenW p) P q)} {nx : List (Option V) → Hp → Prop} {Q : VK} {p : Pn} {a : Addr} {cells : List Int} {n : Nat} {H' : Hp} (hp : H' p.p = some (.dK (penK p.c 0 0))) (hc : H' p.c = some (.lst (cells.map V.int))) (hP : H' P = some (.tbl #[])) (hl : cells.length ≤ 63)
    (qf : ∀ H', Q (.bl true) H') (h : t p { nx := fun _ _ => False, rt := fun d _ => d = .bl true } (none :: some (.d (.ob p.p)) :: List.replicate n none) 0) : ∃ i, tS (TabW (PenW i) P q) (t i) { nx := nx, rt := Q } (some (.ref a) :: some (.ref p.p) :: List.replicate n none) H' := by
  have ne : p.c ≠ p.p := fun e => by rw [e, hp] at hc; cases hc
  have ne2 : P ≠ p.p := fun e => by rw [e, hp] at hP; cases hP
  have ne3 : p.c ≠ P := fun e => by rw [e, hP] at hc; cases hc
  refine ⟨p, ⟨H', fun b => b = p.p ∨ b = P⟩, fun b => b = p.p ∨ b = P, _, (0 : Nat), { nx := fun _ _ => False, rt := fun d _ => d = .bl true }, ?_, h, ?_⟩
  · refine ⟨⟨⟨cells, 0, 0, fun m => m.elim (fun m => m.2 (.inl rfl)) (fun e => ne2 e.symm), fun m => m.elim (fun m => m.1.elim ne ne3) ne3, hp, hc, hl, Int.le_refl _, Int.le_refl _, Int.le_refl _⟩, ne2, fun m => m.2 (.inr rfl), #[], hP, trivial, fun pos cv e => by
        have z : codeAmong pos [] = some cv := e
        simp [codeAmong] at z⟩, fun _ h => h, fun _ h => h, fun _ h => .inl h, ?_, ?_, Kp.refl, by simp, ?_, ?_, ?_, trivial⟩
    · intro b e
      show H' b ≠ none
      rcases e with e | e
      · rw [e, hp]; exact fun z => nomatch z
      · rw [e, hP]; exact fun z => nomatch z
    · intro b e
      rcases e with e | e
      · rw [e, hp]; exact fun z => nomatch z
      · rw [e, hP]; exact fun z => nomatch z
    · intro i z e
      match i, e with
      | 0, e => cases e
      | 1, e => cases e; exact ⟨_, rfl, .ob p.p⟩
      | i + 2, e =>
        have e' : (List.replicate n (none : Option Sl))[i]? = some (some z) := e
        rw [List.getElem?_replicate] at e'
        split at e' <;> cases e'
    · intro i j z y b ei ej hz
      match i, ei with
      | 0, e => cases e
      | 1, e => cases e; cases hz
      | i + 2, e =>
        have e' : (List.replicate n (none : Option Sl))[i]? = some (some z) := e
        rw [List.getElem?_replicate] at e'
        split at e' <;> cases e'
    · intro i z b ei hz
      match i, ei with
      | 0, e => cases e
      | 1, e => cases e; cases hz
      | i + 2, e =>
        have e' : (List.replicate n (none : Option Sl))[i]? = some (some z) := e
        rw [List.getElem?_replicate] at e'
        split at e' <;> cases e'
  · refine ⟨fun σ H ⟨_, _, _, _, _, z⟩ => z.elim, fun v H ⟨d, ω', _, _, h1, h2⟩ => ?_, fun σ H ⟨_, _, _, _, _, z⟩ => z.elim, fun σ H ⟨_, _, _, _, _, z⟩ => z.elim⟩
    subst h2
    cases h1
    exact qf _
end Tk

namespace Tk
open PySem PySem.Spec PyProof.Rows L2

/-! ## x = text.split(sep), a list of the def's own; x.insert(k, x.pop(j)) -/
section
variable {R S : RQ} {X : Cx} {W : Wo} {o e : Expr} {pos apos cpos : Pos} {to te : DT W}
def fSplit {W : Wo} (to te : DT W) : DFt W := fun ρ ω Q => to ρ ω fun x ω1 => (∃ a, x = .str a) ∧ te ρ ω1 fun y ω2 => ∃ a b, x = .str a ∧ y = .str b ∧ (b.length == 0) = false ∧ a.length + 2 ≤ sizeLine ∧ Q (.own ((Txt.split a b).map D.str)) ω2
theorem df_split [Stab R] [Stab S] (ho : DX R X W o to) (he : DX S X W e te)
    (hbase : attributeBase o "split" X.env (eval o X.env) = eval o X.env := by rfl)
    (hfew : ((backTo cpos (starEach [e] X.env)).all (fun x => !x.1) && (backToKw cpos (keywordEach [] X.env)).all (fun x => x.1.isSome) && decide (([e]).length + ([] : List Keyword).length + (if ([] : List Keyword).isEmpty then 0 else 1) < 30)) = true := by rfl)
    (hline : (apos.endLine == cpos.line) = true := by rfl) (hs : starEach [e] X.env = (false, eval e X.env) :: starEach [] X.env := by rfl) (hplain : (backTo cpos (starEach [] X.env)).any (·.1) = false := by rfl) :
    DF X W (.Call (.Attribute o "split" apos) [e] [] cpos) (fSplit to te) :=
  ⟨_, pe_bm PySem.F.plainAttrs_str PySem.F.slot_str_split PySem.F.type_str_split mt_split ho.pe (pa_cons he.pe pa_nil hs) hbase hfew hline hs hplain, fun B Ex ρ ω σ H Q Q' rep q f => ⟨B, Ex, ρ, ω, _, rep, q, fun dx ω1 x H1 ⟨⟨a0, e0⟩, q1⟩ k1 w1 z1 => by
    subst e0
    have ex := (Stab.bq z1).ofS
    subst ex
    refine ⟨rfl, B, Ex, ρ, ω1, _, rep.go k1 w1, q1, fun dy ω2 y H2 ⟨a, b, ea, eb, hb, hl, q2⟩ k2 w2 z2 => ?_⟩
    cases ea
    subst eb
    have ey := (Stab.bq z2).ofS
    subst ey
    have k := k1.trans k2
    refine ⟨_, _, rfl, rfl, hb, hl, fun l n => f _ _ ⟨l, .own ((Txt.split _ b).map D.str), ω2, rfl, k.back w2 n, k.trans (Kp.same (same_upd n)), W.gr (W.le w2 fun b h => ?_) (same_upd n), rfl, ⟨.inr rfl, _, upd_same, dqL_strs _⟩, q2⟩⟩
    rcases h with h | h
    · exact .inl h
    · subst h; exact .inr n⟩⟩
end
theorem DqL.eraseIdx {H : Hp} {Ex : Addr → Prop} : ∀ {vs : List V} {ds : List D} (i : Nat), DqL H Ex vs ds → DqL H Ex (vs.eraseIdx i) (ds.eraseIdx i)
  | _, _, _, .nil => .nil
  | _, _, 0, .cons _ t => t
  | _, _, i + 1, .cons r t => .cons r (DqL.eraseIdx i t)
theorem upd_upd {H : Hp} {a : Addr} {o u : HO} : upd (upd H a o) a u = upd H a u := by
  funext b
  by_cases h : b = a
  · subst h; rw [upd_same, upd_same]
  · rw [upd_ne h, upd_ne h, upd_ne h]
section
variable {X : Cx} {W : Wo} {pos : Pos} {ti tv : DT W}
def dInsPop {W : Wo} (i : Nat) (ti tv : DT W) : DTS W := fun D0 ρ ω => ∃ ds, ρ[i]? = some (some (.own ds)) ∧ ti ρ ω fun kd ω1 => tv ρ ω1 fun jd ω2 => ∃ (n j : Int) (k : Nat) (d : D), kd = .int n ∧ jd = .int j ∧ -(2 ^ 63) ≤ j ∧ j < 2 ^ 63 ∧ seqIndex? j ds.length = some k ∧ ds[k]? = some d ∧ ds.length < sizeLine ∧ 0 ≤ n ∧ n < 2 ^ 63 ∧
  D0.nx (ρ.set i (some (.own ((ds.eraseIdx k).take n.toNat ++ [d] ++ (ds.eraseIdx k).drop n.toNat)))) ω2
theorem ds_insPop {i : Nat} {x : Str} {px pa pc px2 pa2 pc2 : Pos} {k k2 : Expr} (hN : X.N[i]? = some x) (hv : Vis X.env.scope x) (hk : DE X W k ti) (h : DE X W k2 tv) (hd : (x == ("__debug__" : Str)) = false := by decide) (hcd : (x == ("__classdict__" : Str)) = false := by decide)
    (hbase : attributeBase (.Name x px) "insert" X.env (eval (.Name x px) X.env) = eval (.Name x px) X.env := by rfl)
    (hfew : ((backTo pc (starEach [k, .Call (.Attribute (.Name x px2) "pop" pa2) [k2] [] pc2] X.env)).all (fun x => !x.1) && (backToKw pc (keywordEach [] X.env)).all (fun x => x.1.isSome) && decide ([k, .Call (.Attribute (.Name x px2) "pop" pa2) [k2] [] pc2].length + ([] : List Keyword).length + (if ([] : List Keyword).isEmpty then 0 else 1) < 30)) = true := by rfl)
    (hline : (pa.endLine == pc.line) = true := by rfl) (hst : starEach [k, .Call (.Attribute (.Name x px2) "pop" pa2) [k2] [] pc2] X.env = (false, eval k X.env) :: starEach [.Call (.Attribute (.Name x px2) "pop" pa2) [k2] [] pc2] X.env := by rfl)
    (hst2 : starEach [.Call (.Attribute (.Name x px2) "pop" pa2) [k2] [] pc2] X.env = (false, eval (.Call (.Attribute (.Name x px2) "pop" pa2) [k2] [] pc2) X.env) :: starEach [] X.env := by rfl) (hplain : (backTo pc (starEach [.Call (.Attribute (.Name x px2) "pop" pa2) [k2] [] pc2] X.env)).any (·.1) = false := by rfl)
    (hbase2 : attributeBase (.Name x px2) "pop" X.env (eval (.Name x px2) X.env) = eval (.Name x px2) X.env := by rfl)
    (hfew2 : ((backTo pc2 (starEach [k2] X.env)).all (fun x => !x.1) && (backToKw pc2 (keywordEach [] X.env)).all (fun x => x.1.isSome) && decide ([k2].length + ([] : List Keyword).length + (if ([] : List Keyword).isEmpty then 0 else 1) < 30)) = true := by rfl)
    (hline2 : (pa2.endLine == pc2.line) = true := by rfl) (hst3 : starEach [k2] X.env = (false, eval k2 X.env) :: starEach [] X.env := by rfl) (hplain2 : (backTo pc2 (starEach [] X.env)).any (·.1) = false := by rfl)
    (hsw : swapsWith (.Call (.Attribute (.Name x px) "insert" pa) [k, .Call (.Attribute (.Name x px2) "pop" pa2) [k2] [] pc2] [] pc) none pos.line X.env = pure false := by rfl) :
    DS X W (.Expr (.Call (.Attribute (.Name x px) "insert" pa) [k, .Call (.Attribute (.Name x px2) "pop" pa2) [k2] [] pc2] [] pc) pos) (dInsPop i ti tv) := by
  refine DS.of (ps_expr (pe_bm PySem.F.plainAttrs_list PySem.F.slot_list_insert PySem.F.type_list_insert mt_insert (pe_var (i := i) hN hv hd hcd)
    (pa_cons hk.pe (pa_cons (pe_bm PySem.F.plainAttrs_list PySem.F.slot_list_pop PySem.F.type_list_pop mt_popAt (pe_var (i := i) hN hv hd hcd) (pa_cons h.pe pa_nil hst3) hbase2 hfew2 hline2 hst3 hplain2) pa_nil hst2) hst) hbase hfew hline hst hplain) hsw) fun B Ex ρ ω σ H D0 rep ⟨ds, e1, q⟩ => ?_
  obtain ⟨a, vs, g1, g2, nm, g3, g4, g5⟩ := rep.own e1
  refine ⟨_, g1, .inl ⟨rfl, vs, SqL.of g4⟩, B, Ex, ρ, ω, _, rep, q, fun kd ω1 kv H1 q1 k1 w1 z1 => ?_⟩
  have r1 := rep.go k1 w1
  obtain ⟨a1, vs1, f1, f2, _, _, f4, f5⟩ := r1.own e1
  rw [g1] at f1
  cases f1
  refine ⟨_, g1, .inl ⟨rfl, vs1, SqL.of f4⟩, B, Ex, ρ, ω1, _, r1, q1, fun jd ω2 jv H2 ⟨n, j, kk, d, ek, ej, j0, j1, hs, hd2, hl, n0, n1, q2⟩ k2' w2 z2 => ?_⟩
  subst ek ej
  cases z1
  cases z2
  have r := r1.go k2' w2
  obtain ⟨a', vs', g1', g2', _, _, g4', g5'⟩ := r.own e1
  rw [g1] at g1'
  cases g1'
  obtain ⟨y, hy, dy⟩ := g5'.get hd2
  refine ⟨a, vs', j, kk, y, rfl, rfl, g4', j0, j1, by rw [g5'.length]; exact hs, hy, ?_⟩
  refine ⟨a, vs'.eraseIdx kk, n, y, rfl, rfl, upd_same, ?_, n0, n1, ?_⟩
  · have : (vs'.eraseIdx kk).length ≤ vs'.length := List.length_eraseIdx_le ..
    rw [g5'.length] at this
    omega
  · rw [upd_upd]
    have ne : ∀ b, ¬ Ex b → b ≠ a := fun b n e => n (e ▸ g2)
    have er := g5'.eraseIdx kk
    have all := (((er.take n.toNat).append (.cons dy .nil)).append (er.drop n.toNat))
    obtain ⟨r2, s2⟩ := r.ownUpd (o := .lst ((vs'.eraseIdx kk).take n.toNat ++ [y] ++ (vs'.eraseIdx kk).drop n.toNat)) (y := .own ((ds.eraseIdx kk).take n.toNat ++ [d] ++ (ds.eraseIdx kk).drop n.toNat)) e1 rfl g1 rfl g2 ⟨g2, _, upd_same, all.to fun b o e n => ⟨by rw [upd_ne (ne b n)]; exact e, n⟩⟩
    exact ⟨Ex, _, ω2, ((rep.stp k1 w1).trans (r1.stp k2' w2)).trans s2, r2, q2⟩
end
end Tk

namespace Tk
open PySem PySem.Spec PyProof.Rows L2

/-! ## what a law knows of an own class of exceptions under ValueError -/
structure Xk (P : Program) (w : World) (K : PySem.W.Frag) (mg : Str → Option Value) (base : Heap) (x : Str) (C : Addr) (f : Str) : Prop where
  X : Xcl P w K mg base x C f
  xf : XfC K C
  no : PySem.W.findIn K (.ref C) f = some none
  ec : ExcC K C
  me : PySem.W.exmOne K (.ref C) (.ref C) = some true
  ve : PySem.W.kitOne K (.ref C) (.type "ValueError") = some true
/-- call() / except x as e: kept = e; what is told of it: None, or the field -/
def TTrow (C : Addr) (f : Str) {W : Wo} : Act W → W.Om → (D → W.Om → Prop) → Prop := fun act ω Q =>
  ∀ (Q' : D → W.Om → Prop) (X' : Addr → List Str → List D → W.Om → Prop), (∀ d ω', Q .non ω' → Q' d ω') → (∀ d ω', Q (.tup [.str f, d, .bl true]) ω' → X' C [f] [d] ω') → act ω Q' X'
/-- an error of the class at S is what «except S» names -/
theorem exm_self {K : PySem.W.Frag} {S : Addr} (h1 : PySem.W.subIn K (.ref S) (.type "BaseException") = some true) (h2 : PySem.W.isClsIn K S = true) (h3 : PySem.W.typeIn K (.ref S) = some (.type "type")) (h4 : PySem.W.subIn K (.ref S) (.ref S) = some true) :
    PySem.W.exmOne K (.ref S) (.ref S) = some true := by
  have e1 : (PySem.W.subIn K (.ref S) (.type "BaseException") == some true) = true := by rw [h1] <;> rfl
  have e2 : ((PySem.W.clsIn K S).isSome && PySem.W.typeIn K (.ref S) == some (.type "type")) = true := by
    have h2' : (PySem.W.clsIn K S).isSome = true := h2
    rw [h2', h3] <;> rfl
  show (if (PySem.W.subIn K (.ref S) (.type "BaseException") == some true) = true then (if ((PySem.W.clsIn K S).isSome && PySem.W.typeIn K (.ref S) == some (.type "type")) = true then PySem.W.subIn K (.ref S) (.ref S) else none) else none) = some true
  rw [if_pos e1, if_pos e2]
  exact h4
theorem kit_ve {K : PySem.W.Frag} {S : Addr} {T : String} {b : Bool} (hT : PySem.W.kitMeta T = true) (h : PySem.W.subIn K (.ref S) (.type T) = some b) : PySem.W.kitOne K (.ref S) (.type T) = some b := by
  have e1 : (Value.ref S == Value.type T) = false := rfl
  show (if (Value.ref S == Value.type T) = true then some true else (if PySem.W.kitMeta T = true then PySem.W.subIn K (.ref S) (.type T) else none)) = some b
  rw [e1, if_neg Bool.false_ne_true, if_pos hT]
  exact h
end Tk

namespace Tk
open PySem PySem.Spec PyProof.Rows L2

/-! ## any texts, up to 20000 signs -/
theorem big_line {n : Nat} (h : n ≤ 20000) : n ≤ sizeLine := Nat.le_trans h (by decide)
theorem sl_toB {l : List Nat} {n : Nat} (h : l.length ≤ 20000) : slD (.str (tx l)) none (some (n : Int)) = some (.str (tx (l.take n))) := by
  show (if (tx l).length ≤ sizeLine then some (D.str (cutS (tx l) none (some (n : Int)))) else none) = _
  rw [if_pos (by rw [tx_len]; exact big_line h), cut_to]
theorem sl_fromB {l : List Nat} {n : Nat} (h : l.length ≤ 20000) : slD (.str (tx l)) (some (n : Int)) none = some (.str (tx (l.drop n))) := by
  show (if (tx l).length ≤ sizeLine then some (D.str (cutS (tx l) (some (n : Int)) none)) else none) = _
  rw [if_pos (by rw [tx_len]; exact big_line h), cut_from]
theorem add_txB {a b : List Nat} (h : a.length + b.length ≤ 20000) : addD (.str (tx a)) (.str (tx b)) = some (.str (tx (a ++ b))) := by
  show (if (tx a).length + (tx b).length ≤ sizeLine then some (D.str (tx a ++ tx b)) else none) = _
  rw [if_pos (by rw [tx_len, tx_len]; exact big_line h), tx_app]
theorem len_txB {a : List Nat} (h : a.length ≤ 20000) : lenD (.str (tx a)) = some (.int a.length) := by
  show (if (tx a).length ≤ sizeLine then some (D.int (tx a).length) else none) = _
  rw [if_pos (by rw [tx_len]; exact big_line h), tx_len]
/-- some of a text -/
theorem sl_midB {l : List Nat} {a b : Nat} (h : l.length ≤ 20000) : slD (.str (tx l)) (some (a : Int)) (some (b : Int)) = some (.str (tx ((l.take b).drop a))) := by
  show (if (tx l).length ≤ sizeLine then some (D.str (cutS (tx l) (some (a : Int)) (some (b : Int)))) else none) = _
  rw [if_pos (by rw [tx_len]; exact big_line h), cut_tx]
  have e1 : ∀ (d z : Nat), HT.sIx l.length d (some (z : Int)) = min z l.length := fun d z => by
    unfold HT.sIx
    simp only
    split
    · omega
    · simp
  have e : (l.drop (HT.sIx l.length 0 (some (a : Int)))).take (HT.sIx l.length l.length (some (b : Int)) - HT.sIx l.length 0 (some (a : Int))) = (l.take b).drop a := by
    rw [e1, e1, List.drop_take]
    by_cases h1 : a ≤ l.length
    · rw [Nat.min_eq_left h1]
      apply List.take_eq_take_iff.mpr
      rw [List.length_drop]
      omega
    · have h2 : min a l.length = l.length := Nat.min_eq_right (by omega)
      rw [h2, List.drop_length, List.drop_of_length_le (show l.length ≤ a by omega), List.take_nil, List.take_nil]
  rw [e]

/-! ## split by one sign -/
def spS (s : Nat) (l : List Nat) : List (List Nat) := TL.spl [s] 0 [] l
theorem pre_one {s c : Nat} {r : List Nat} : TL.pre [s] (c :: r) = decide (c = s) := by
  show (List.take 1 (c :: r) == [s]) = _
  rw [List.take_succ_cons, List.take_zero]
  by_cases h : c = s
  · subst h; simp
  · simp [h]
theorem spl1 {s : Nat} : ∀ (l acc : List Nat), TL.spl [s] 0 acc l ≠ [] ∧ (TL.spl [s] 0 acc l).length ≤ l.length + 1 ∧ ∀ y ∈ TL.spl [s] 0 acc l, y.length ≤ acc.length + l.length ∧ (∀ c ∈ y, c ∈ acc ∨ c ∈ l) ∧ (s ∉ acc → s ∉ y)
  | [], acc => by
    rw [TL.spl_nil]
    refine ⟨by simp, by simp, fun y hy => ?_⟩
    rw [List.mem_singleton.mp hy]
    exact ⟨by simp, fun c hc => .inl hc, id⟩
  | c :: r, acc => by
    cases h : TL.pre [s] (c :: r) with
    | true =>
      rw [TL.spl_hit h]
      obtain ⟨h1, h2, h3⟩ := spl1 (s := s) r []
      have e : TL.spl [s] ([s].length - 1) [] r = TL.spl [s] 0 [] r := rfl
      rw [e]
      refine ⟨by simp, by simp only [List.length_cons]; omega, fun y hy => ?_⟩
      rcases List.mem_cons.mp hy with q | q
      · subst q
        exact ⟨by omega, fun c hc => .inl hc, id⟩
      · obtain ⟨a1, a2, a3⟩ := h3 y q
        refine ⟨by simp only [List.length_cons, List.length_nil] at a1 ⊢; omega, fun z hz => ?_, fun _ => a3 (by simp)⟩
        rcases a2 z hz with w | w
        · cases w
        · exact .inr (List.mem_cons_of_mem _ w)
    | false =>
      rw [TL.spl_miss h]
      have hc : c ≠ s := by rw [pre_one] at h; exact of_decide_eq_false h
      obtain ⟨h1, h2, h3⟩ := spl1 (s := s) r (acc ++ [c])
      refine ⟨h1, by simp only [List.length_cons]; omega, fun y hy => ?_⟩
      obtain ⟨a1, a2, a3⟩ := h3 y hy
      refine ⟨by simp only [List.length_append, List.length_cons, List.length_nil] at a1 ⊢; omega, fun z hz => ?_, fun n => a3 (by simp; exact ⟨n, fun e => hc e.symm⟩)⟩
      rcases a2 z hz with w | w
      · rcases List.mem_append.mp w with w | w
        · exact .inl w
        · rw [List.mem_singleton.mp w]; exact .inr (List.mem_cons_self ..)
      · exact .inr (List.mem_cons_of_mem _ w)
theorem spS_ne (s : Nat) (l : List Nat) : spS s l ≠ [] := (spl1 l []).1
theorem spS_len (s : Nat) (l : List Nat) : (spS s l).length ≤ l.length + 1 := (spl1 l []).2.1
theorem spS_mem {s : Nat} {l y : List Nat} (h : y ∈ spS s l) : y.length ≤ l.length ∧ (∀ c ∈ y, c ∈ l) ∧ s ∉ y := by
  obtain ⟨a, b, c⟩ := (spl1 l []).2.2 y h
  exact ⟨by simpa using a, fun z hz => (b z hz).elim (fun q => by cases q) id, c (by simp)⟩
theorem split_txB {s : Nat} {l : List Nat} (hs : s < 256) (hl : l.length ≤ 20000) : splitD (.str (tx l)) (.str (tx [s])) = some (.lst (nmD (spS s l))) := by
  show (if ((tx [s]).length == 0) = false ∧ (tx l).length + 2 ≤ sizeLine then some (D.lst ((Txt.split (tx l) (tx [s])).map D.str)) else none) = _
  rw [if_pos ⟨by rw [tx_len]; rfl, by rw [tx_len]; exact Nat.le_trans (Nat.add_le_add_right hl 2) (by decide)⟩]
  have e := SX.split_S (a := l) (b := [s]) (by simp) (by simp [hs])
  have e2 : Txt.split (tx l) (tx [s]) = (spS s l).map tx := e
  rw [e2]
  unfold nmD
  rw [List.map_map]
  rfl
theorem split_raw {s : Nat} {l : List Nat} (hs : s < 256) : (Txt.split (tx l) (tx [s])).map D.str = nmD (spS s l) := by
  have e := SX.split_S (a := l) (b := [s]) (by simp) (by simp [hs])
  have e2 : Txt.split (tx l) (tx [s]) = (spS s l).map tx := e
  rw [e2]
  unfold nmD
  rw [List.map_map]
  rfl

/-! ## a word as a cell -/
abbrev Asc (l : List Nat) : Prop := ∀ c ∈ l, c < 128
def digB (l : List Nat) : Bool := l.all fun c => decide (c ∈ figs.cps.toList)
theorem digB_all {l : List Nat} (h : digB l = true) : NumText.AllDigits l := fun c hc => by
  have h1 := of_decide_eq_true (List.all_eq_true.mp h c hc)
  have key : ∀ d ∈ figs.cps.toList, 48 ≤ d ∧ d ≤ 57 := by decide +kernel
  exact key c h1
def fgs (l : List Nat) : List Nat := if l.take 1 = [45] then l.drop 1 else l
def numV (l : List Nat) : Int := if l.take 1 = [45] then -((NumText.digitsVal (l.drop 1) : Nat) : Int) else ((NumText.digitsVal l : Nat) : Int)
/-- a leading nought -/
def zeroB (l : List Nat) : Bool := decide ((fgs l).head? = some 48) && !decide (l = [48])
def isNumB (l : List Nat) : Bool := decide (1 ≤ (fgs l).length) && decide ((fgs l).length ≤ 15) && digB (fgs l)
def cellW (l : List Nat) : List D := if l = [42] then [.non] else if wdB l 12 = true then [.str (tx l)] else if isNumB l = true ∧ zeroB l = false then [.int (numV l)] else []
theorem int_word {l : List Nat} (h : isNumB l = true) : PySem.intText? (tx l) = some (numV l) := by
  unfold isNumB at h
  simp only [Bool.and_eq_true, decide_eq_true_eq] at h
  obtain ⟨⟨h1, h2⟩, h3⟩ := h
  have h3' := digB_all h3
  have h1' : 1 ≤ (fgs l).length := h1
  unfold fgs at h1 h2 h3'
  unfold numV
  split at h1
  · rename_i c
    rw [if_pos c] at h2 h3' ⊢
    have el : l = 45 :: l.drop 1 := by
      cases l with
      | nil => cases c
      | cons a r => simp at c; rw [c]; rfl
    have hne : l.drop 1 ≠ [] := fun e => by rw [e] at h1; simp at h1
    have ll : l.length ≤ 16 := by rw [List.length_drop] at h2; omega
    exact intText_neg (x := tx l) (cs := l.drop 1) el h3' hne (by rw [tx_len]; omega)
  · rename_i c
    rw [if_neg c] at h2 h3' ⊢
    have hne : l ≠ [] := fun e => by rw [e] at h1; simp at h1
    exact intText_digits (x := tx l) h3' hne (by rw [tx_len]; omega)
theorem val_snoc (l : List Nat) (c : Nat) : NumText.digitsVal (l ++ [c]) = NumText.digitsVal l * 10 + (c - 48) := by
  unfold NumText.digitsVal
  rw [List.foldl_append]
  rfl
theorem val_pos : ∀ {l : List Nat}, NumText.AllDigits l → l ≠ [] → l.head? ≠ some 48 → 1 ≤ NumText.digitsVal l := by
  intro l
  induction hn : l.length generalizing l with
  | zero => intro _ h; exact absurd (List.length_eq_zero_iff.mp hn) h
  | succ n ih =>
    intro hd hne hh
    obtain ⟨i, c, rfl⟩ : ∃ i c, l = i ++ [c] := ⟨l.dropLast, l.getLast hne, (List.dropLast_concat_getLast hne).symm⟩
    rw [val_snoc]
    by_cases hi : i = []
    · subst hi
      have hc := hd c (by simp)
      have : c ≠ 48 := fun e => hh (by simp [e])
      have e0 : NumText.digitsVal [] = 0 := rfl
      rw [e0]
      omega
    · have hl : i.length = n := by simpa using hn
      have hh' : i.head? ≠ some 48 := by
        cases i with
        | nil => exact absurd rfl hi
        | cons a r => simpa using hh
      have := ih hl (fun c hc => hd c (List.mem_append_left _ hc)) hi hh'
      omega
theorem num_back : ∀ {l : List Nat}, NumText.AllDigits l → l ≠ [] → l.head? ≠ some 48 → TL.numL (NumText.digitsVal l) = l := by
  intro l
  induction hn : l.length generalizing l with
  | zero => intro _ h; exact absurd (List.length_eq_zero_iff.mp hn) h
  | succ n ih =>
    intro hd hne hh
    obtain ⟨i, c, rfl⟩ : ∃ i c, l = i ++ [c] := ⟨l.dropLast, l.getLast hne, (List.dropLast_concat_getLast hne).symm⟩
    have hc := hd c (by simp)
    rw [val_snoc]
    by_cases hi : i = []
    · subst hi
      have e0 : NumText.digitsVal [] = 0 := rfl
      rw [e0, TL.numL_lt (by omega)]
      simp
      omega
    · have hl : i.length = n := by simpa using hn
      have hh' : i.head? ≠ some 48 := by
        cases i with
        | nil => exact absurd rfl hi
        | cons a r => simpa using hh
      have hdi : NumText.AllDigits i := fun c hc => hd c (List.mem_append_left _ hc)
      have pos := val_pos hdi hi hh'
      have ihi := ih hl hdi hi hh'
      rw [TL.numL_step (by omega)]
      have e1 : (NumText.digitsVal i * 10 + (c - 48)) / 10 = NumText.digitsVal i := by omega
      have e2 : 48 + (NumText.digitsVal i * 10 + (c - 48)) % 10 = c := by omega
      rw [e1, e2, ihi]
theorem num_head : ∀ n : Nat, (TL.numL n).head? = some 48 → n = 0 := by
  intro n
  induction n using Nat.strongRecOn with
  | _ n ih =>
    intro h
    by_cases hn : n < 10
    · rw [TL.numL_lt hn] at h
      simp at h
      exact h
    · rw [TL.numL_step (by omega)] at h
      have hne := TL.numL_ne (n / 10)
      have h' : (TL.numL (n / 10)).head? = some 48 := by
        cases q : TL.numL (n / 10) with
        | nil => exact absurd q hne
        | cons a r => rw [q] at h; simpa using h
      have := ih (n / 10) (by omega) h'
      omega
theorem val_zero_nil : TL.numL 0 = [48] := TL.numL_lt (by decide)
/-- written again as it was, just without a leading nought -/
theorem fig_word_iff {l : List Nat} (h : isNumB l = true) : (figL (numV l) = l) ↔ zeroB l = false := by
  unfold isNumB at h
  simp only [Bool.and_eq_true, decide_eq_true_eq] at h
  obtain ⟨⟨h1, h2⟩, h3⟩ := h
  have hd := digB_all h3
  have zb : zeroB l = false ↔ ((fgs l).head? ≠ some 48 ∨ l = [48]) := by
    unfold zeroB
    by_cases a : (fgs l).head? = some 48 <;> by_cases b : l = [48] <;> simp [a, b]
  rw [zb]
  unfold fgs at h1 hd ⊢
  unfold numV
  by_cases c : l.take 1 = [45]
  · rw [if_pos c] at h1 hd ⊢
    rw [if_pos c]
    have el : l = 45 :: l.drop 1 := by
      cases l with
      | nil => cases c
      | cons a r => simp at c; rw [c]; rfl
    have hne : l.drop 1 ≠ [] := fun e => by rw [e] at h1; simp at h1
    have l48 : l ≠ [48] := fun e => by rw [e] at c; simp at c
    by_cases hz : (l.drop 1).head? = some 48
    · constructor
      · intro e
        exfalso
        unfold figL at e
        split at e
        · rename_i neg
          have en : (-((NumText.digitsVal (l.drop 1) : Nat) : Int)).natAbs = NumText.digitsVal (l.drop 1) := by omega
          rw [en, el] at e
          have e' := (List.cons.inj e).2
          simp only [List.drop_succ_cons, List.drop_zero] at e'
          have := num_head _ (by rw [e']; exact hz)
          omega
        · have m : (45 : Nat) ∈ TL.numL (-((NumText.digitsVal (l.drop 1) : Nat) : Int)).natAbs := by rw [e, el]; exact List.mem_cons_self ..
          have := TL.numL_digits _ 45 m
          omega
      · rintro (e | e)
        · exact absurd hz e
        · exact absurd e l48
    · refine ⟨fun _ => .inl hz, fun _ => ?_⟩
      have pos := val_pos hd hne hz
      have neg : (-((NumText.digitsVal (l.drop 1) : Nat) : Int)) < 0 := by omega
      have en : (-((NumText.digitsVal (l.drop 1) : Nat) : Int)).natAbs = NumText.digitsVal (l.drop 1) := by omega
      unfold figL
      rw [if_pos neg, en, num_back hd hne hz]
      exact el.symm
  · rw [if_neg c] at h1 hd ⊢
    rw [if_neg c]
    have hne : l ≠ [] := fun e => by rw [e] at h1; simp at h1
    have e0 : figL ((NumText.digitsVal l : Nat) : Int) = TL.numL (NumText.digitsVal l) := by
      unfold figL
      rw [if_neg (by omega)]
      rfl
    rw [e0]
    by_cases hz : l.head? = some 48
    · constructor
      · intro e
        have n0 := num_head _ (by rw [e]; exact hz)
        rw [n0, val_zero_nil] at e
        exact .inr e.symm
      · rintro (e | e)
        · exact absurd hz e
        · rw [e]; decide +kernel
    · exact ⟨fun _ => .inl hz, fun _ => num_back hd hne hz⟩
theorem num_small {l : List Nat} (h : isNumB l = true) : (numV l).natAbs < 10 ^ 15 := by
  unfold isNumB at h
  simp only [Bool.and_eq_true, decide_eq_true_eq] at h
  obtain ⟨⟨h1, h2⟩, h3⟩ := h
  have hd := digB_all h3
  have key : ∀ (k : Nat) (m : List Nat), m.length ≤ k → NumText.AllDigits m → NumText.digitsVal m < 10 ^ k := by
    intro k
    induction k with
    | zero =>
      intro m hm _
      rw [List.length_eq_zero_iff.mp (show m.length = 0 by omega)]
      decide
    | succ k ih =>
      intro m hm hd
      by_cases hne : m = []
      · subst hne
        exact Nat.pow_pos (by decide)
      · obtain ⟨i, c, rfl⟩ : ∃ i c, m = i ++ [c] := ⟨m.dropLast, m.getLast hne, (List.dropLast_concat_getLast hne).symm⟩
        rw [val_snoc]
        have hc := hd c (by simp)
        have := ih i (by simp at hm; omega) (fun c hc => hd c (List.mem_append_left _ hc))
        rw [Nat.pow_succ]
        omega
  have := key 15 (fgs l) h2 hd
  unfold numV
  unfold fgs at this
  split <;> rename_i c
  · rw [if_pos c] at this; omega
  · rw [if_neg c] at this; omega
end Tk

namespace Tk
open PySem PySem.Spec PyProof.Rows L2

/-! ## x in a list, x of any depth -/
theorem un65 {k : Nat} {A : Around} (r : Room k A) : A.units + 65 < cLine := by have := r.un; omega
def inX : D → D → Option D
  | x, .lst ys => if (shp x && shp (.lst ys)) = true then some (.bl (ys.any fun y => eqv y x)) else none
  | _, _ => none
theorem any_pyL (x : D) : ∀ ys : List D, (D.pyL ys).any (fun z => PyData.eqv z x.py) = ys.any fun y => eqv y x
  | [] => rfl
  | y :: ys => by
    show (PyData.eqv y.py x.py || (D.pyL ys).any _) = _
    rw [any_pyL x ys]
    rfl
theorem o_inX {X : Cx} {W : Wo} (hu : X.A.units + 65 < cLine) : Op2 X W (compareOp .In) inX := by
  refine ⟨_, op_inD hu, ?_⟩
  intro H Ex x y dx dy z Q tr hx hy e k
  cases dy with
  | lst ys =>
    replace e : (if (shp dx && shp (.lst ys)) = true then some (D.bl (ys.any fun y => eqv y dx)) else none) = some z := e
    split at e
    · rename_i h
      cases e
      obtain ⟨h1, h2⟩ := Bool.and_eq_true_iff.mp h
      have a1 := Bool.and_eq_true_iff.mp (show (dx.pn && SeqAt.shaped dx.py) = true from h1)
      have a2 := Bool.and_eq_true_iff.mp (show ((D.lst ys).pn && SeqAt.shaped (D.lst ys).py) = true from h2)
      refine ⟨_, D.pyL ys, hx.dp a1.1, hy.dp a2.1, a1.2, a2.2, ?_⟩
      rw [any_pyL]
      exact k _ _ (Same.refl H) (.bl _)
    · cases e
  | _ => cases e
/-! ## what == takes -/
theorem strOk_asc {l : List Nat} (h : ∀ c ∈ l, c < 128) : PyData.strOk (tx l) = true := by
  show (tx l).cps.all (· < 0x110000) = true
  rw [← Array.all_toList, List.all_eq_true]
  intro c hc
  have := h c hc
  simp; omega
/-- data of small depth without dicts, all texts of plain signs -/
structure Pd (k : Nat) (d : D) : Prop where
  pn : d.pn = true
  lay : d.py.canLay0 = true
  dp : d.py.depth ≤ k
theorem Pd.shp {k : Nat} {d : D} (h : Pd k d) (hk : k ≤ 64) : shp d = true := by
  unfold Tk.shp
  rw [h.pn, Bool.true_and]
  unfold SeqAt.shaped
  rw [h.lay, Bool.true_and, decide_eq_true_eq]
  exact Nat.le_trans h.dp hk
theorem pdL {k : Nat} : ∀ {xs : List D}, (∀ x ∈ xs, Pd k x) → D.pnL xs = true ∧ PyData.canLayAll0 (D.pyL xs) = true ∧ PyData.depthAll (D.pyL xs) ≤ k
  | [], _ => ⟨rfl, rfl, Nat.zero_le _⟩
  | x :: xs, h => by
    obtain ⟨a, b, c⟩ := pdL (xs := xs) fun y hy => h y (List.mem_cons_of_mem _ hy)
    have hx := h x (List.mem_cons_self ..)
    refine ⟨?_, ?_, ?_⟩
    · show (x.pn && D.pnL xs) = true
      rw [hx.pn, a]; rfl
    · show (x.py.canLay0 && PyData.canLayAll0 (D.pyL xs)) = true
      rw [hx.lay, b]; rfl
    · show max x.py.depth (PyData.depthAll (D.pyL xs)) ≤ k
      have := hx.dp
      omega
theorem Pd.lst {k : Nat} {xs : List D} (h : ∀ x ∈ xs, Pd k x) : Pd (k + 1) (.lst xs) := by
  obtain ⟨a, b, c⟩ := pdL h
  exact ⟨a, b, by show PyData.depthAll (D.pyL xs) + 1 ≤ k + 1; omega⟩
theorem Pd.tup {k : Nat} {xs : List D} (h : ∀ x ∈ xs, Pd k x) : Pd (k + 1) (.tup xs) := by
  obtain ⟨a, b, c⟩ := pdL h
  exact ⟨a, b, by show PyData.depthAll (D.pyL xs) + 1 ≤ k + 1; omega⟩
theorem Pd.str {l : List Nat} (h : ∀ c ∈ l, c < 128) : Pd 0 (.str (tx l)) := ⟨rfl, strOk_asc h, Nat.le_refl _⟩
theorem Pd.int {i : Int} : Pd 0 (.int i) := ⟨rfl, rfl, Nat.le_refl _⟩
theorem Pd.non : Pd 0 .non := ⟨rfl, rfl, Nat.le_refl _⟩
theorem Pd.bl {b : Bool} : Pd 0 (.bl b) := ⟨rfl, rfl, Nat.le_refl _⟩
theorem Pd.le {j k : Nat} {d : D} (h : Pd j d) (hk : j ≤ k) : Pd k d := ⟨h.pn, h.lay, Nat.le_trans h.dp hk⟩
theorem cellW_pd {l : List Nat} (h : ∀ c ∈ l, c < 128) : ∀ x ∈ cellW l, Pd 0 x := by
  intro x hx
  unfold cellW at hx
  split at hx
  · rw [List.mem_singleton.mp hx]; exact .non
  · split at hx
    · rw [List.mem_singleton.mp hx]; exact .str h
    · split at hx
      · rw [List.mem_singleton.mp hx]; exact .int
      · cases hx
theorem cellW_one (l : List Nat) : cellW l = [] ∨ ∃ d, cellW l = [d] := by
  unfold cellW
  split
  · exact .inr ⟨_, rfl⟩
  · split
    · exact .inr ⟨_, rfl⟩
    · split
      · exact .inr ⟨_, rfl⟩
      · exact .inl rfl
/-! ## how many words -/
theorem spl1_sum {s : Nat} : ∀ (l acc : List Nat), ((TL.spl [s] 0 acc l).map fun y => y.length + 1).sum = acc.length + l.length + 1
  | [], acc => by rw [TL.spl_nil]; simp
  | c :: r, acc => by
    cases h : TL.pre [s] (c :: r) with
    | true =>
      rw [TL.spl_hit h]
      have e : TL.spl [s] ([s].length - 1) [] r = TL.spl [s] 0 [] r := rfl
      rw [e, List.map_cons, List.sum_cons, spl1_sum r []]
      simp only [List.length_cons, List.length_nil]
      omega
    | false =>
      rw [TL.spl_miss h, spl1_sum r (acc ++ [c])]
      simp only [List.length_append, List.length_cons, List.length_nil]
      omega
theorem sum_two {ys : List (List Nat)} (h : ∀ y ∈ ys, 1 ≤ y.length) : 2 * ys.length ≤ (ys.map fun y => y.length + 1).sum := by
  induction ys with
  | nil => simp
  | cons y ys ih =>
    have a := h y (List.mem_cons_self ..)
    have b := ih fun z hz => h z (List.mem_cons_of_mem _ hz)
    rw [List.map_cons, List.sum_cons, List.length_cons]
    omega
theorem words_few {s : Nat} {l : List Nat} (h : ∀ y ∈ spS s l, 1 ≤ y.length) : 2 * (spS s l).length ≤ l.length + 1 := by
  have a := sum_two h
  have b := spl1_sum (s := s) l []
  unfold spS at a ⊢
  rw [b] at a
  simpa using a
/-! ## unlike ones -/
theorem addKs_same : ∀ (xs ks : List (Option Key)), (ks ++ xs).Nodup → addKs ks xs = ks ++ xs
  | [], ks, _ => by rw [List.append_nil]; rfl
  | x :: xs, ks, h => by
    have hx : x ∉ ks := fun m => by
      rw [List.nodup_append] at h
      exact h.2.2 x m x (List.mem_cons_self ..) rfl
    have e : addK ks x = ks ++ [x] := by
      unfold addK
      rw [if_neg (fun z => hx (hasK_iff.mp z))]
    show addKs (addK ks x) xs = _
    rw [e, addKs_same xs (ks ++ [x]) (by simpa using h)]
    simp
theorem addK_le (ks : List (Option Key)) (x : Option Key) : (addK ks x).length ≤ ks.length + 1 := by rw [addK_len]; split <;> omega
theorem addKs_full : ∀ (xs ks : List (Option Key)), ks.Nodup → (addKs ks xs).length = ks.length + xs.length → (ks ++ xs).Nodup
  | [], ks, h, _ => by rw [List.append_nil]; exact h
  | x :: xs, ks, h, e => by
    have e1 : (addKs (addK ks x) xs).length = ks.length + (xs.length + 1) := e
    have l1 := addKs_len xs (addK ks x)
    have l2 := addK_le ks x
    have hx : x ∉ ks := fun m => by
      have : addK ks x = ks := by
        unfold addK
        rw [if_pos (hasK_iff.mpr m)]
      rw [this] at l1 e1
      omega
    have ea : addK ks x = ks ++ [x] := by
      unfold addK
      rw [if_neg (fun z => hx (hasK_iff.mp z))]
    have nd : (addK ks x).Nodup := addK_nd h
    have := addKs_full xs (addK ks x) nd (by
      rw [e1, ea, List.length_append, List.length_singleton]
      omega)
    rw [ea] at this
    simpa using this
/-- as many unlike ones as there are -/
theorem addKs_iff (xs : List (Option Key)) : (addKs [] xs).length = xs.length ↔ xs.Nodup := by
  constructor
  · intro h
    have := addKs_full xs [] List.nodup_nil (by simpa using h)
    simpa using this
  · intro h
    rw [addKs_same xs [] (by simpa using h)]
    rfl
theorem key_inj {ys : List (List Nat)} : (ys.map fun y => (some (.inr (tx y)) : Option Key)).Nodup ↔ ys.Nodup := by
  constructor
  · intro h
    exact (List.pairwise_map.mp h).imp fun hne e => hne (by rw [e])
  · intro h
    exact nm_keys h
theorem plD_nm : ∀ ys : List (List Nat), (nmD ys).mapM plD = some (ys.map fun y => (some (.inr (tx y)) : Option Key))
  | [] => rfl
  | y :: ys => by
    unfold nmD
    rw [List.map_cons, List.mapM_cons]
    have e := plD_nm ys
    unfold nmD at e
    rw [e]
    rfl
section
variable {W : Wo} {f : D → Rho → Option Rho} {te : DT W} {ρ : Rho}
/-- plain things, put to a set -/
theorem scW_map {α : Type} (h : α → D) (k : α → Option Key) : ∀ (as : List α) (ks : List (Option Key)) {ω : W.Om} {Q : List (Option Key) → W.Om → Prop},
    (∀ a ∈ as, scK (h a) = some (k a) ∧ ∃ ρ', f (h a) ρ = some ρ' ∧ ∀ (ω : W.Om) (Q : D → W.Om → Prop), Q (h a) ω → te ρ' ω Q) → ks.length + as.length < scanBound →
    Q (addKs ks (as.map k)) ω → scW f dYes te ρ (as.map h) ks ω Q
  | [], ks, ω, Q, _, _, q => q
  | x :: xs, ks, ω, Q, hh, hl, q => by
    obtain ⟨e1, ρ', e, g⟩ := hh x List.mem_cons_self
    rw [List.length_cons] at hl
    refine ⟨ρ', e, ?_⟩
    show (if true = true then (te ρ' ω fun d ω2 => ∃ k, scK d = some k ∧ ks.length + 1 < scanBound ∧ scW f dYes te ρ (xs.map h) (addK ks k) ω2 Q) else scW f dYes te ρ (xs.map h) ks ω Q)
    rw [if_pos rfl]
    have la := addK_le ks (k x)
    exact g _ _ ⟨k x, e1, by omega, scW_map h k xs (addK ks (k x)) (fun y hy => hh y (List.mem_cons_of_mem _ hy)) (by omega) q⟩
end
end Tk

namespace Law
open PySem PySem.Spec PyProof.Rows L2 Tk
def topS (i : Nat) : Stmt := PySem.Challenge.pw_tablekin_k07_whole_texts_of_no_table.main.body.getD i (.Pass ⟨0, 0, 0, 0⟩)
abbrev st_NoText___init__ : Stmt := inClass (topS 5) 0
abbrev st_is_word : Stmt := topS 11
abbrev st_is_name : Stmt := topS 12
abbrev st_read_word : Stmt := topS 13
abbrev st_read_heads : Stmt := topS 15
abbrev st_read_cells : Stmt := topS 16
abbrev st_read_table : Stmt := topS 17
abbrev st_l_pen : Stmt := topS 19
abbrev st_l_draw : Stmt := topS 20
abbrev st_l_pick : Stmt := topS 21
abbrev st_l_names : Stmt := topS 22
abbrev st_l_scene : Stmt := topS 23
abbrev st_l_cell : Stmt := topS 24
abbrev st_l_rows : Stmt := topS 25
abbrev st_l_columns : Stmt := topS 26
abbrev st_l_odd : Stmt := topS 27
abbrev st_l_letters : Stmt := topS 28
abbrev st_l_written : Stmt := topS 29
abbrev st_l_spoilt_text : Stmt := topS 30
abbrev st_l_cell_of_word : Stmt := topS 31
abbrev st_l_refused_row : Stmt := topS 32
abbrev st_l_is_name : Stmt := topS 33
abbrev st_l_table_text : Stmt := topS 34
abbrev st_l_table_of : Stmt := topS 35
abbrev st_l_rows_turned : Stmt := topS 36
abbrev st_law : Stmt := topS 37
abbrev st_Table___init__ : Stmt := inClass (topS 7) 0
abbrev st_Table_columns : Stmt := inClass (topS 7) 3
abbrev st_Table_rows : Stmt := inClass (topS 7) 4
theorem sc_NoText___init__ : FnScope ["self", "row"] ["self", "row"] (defScope st_NoText___init__) := ⟨rfl, rfl, rfl, by decide +kernel, rfl, by decide +kernel, by decide +kernel⟩
theorem sc_is_word : FnScope ["thing", "most", "sign"] ["thing", "most"] (defScope st_is_word) := ⟨rfl, rfl, rfl, by decide +kernel, rfl, by decide +kernel, by decide +kernel⟩
theorem sc_is_name : FnScope ["thing"] ["thing"] (defScope st_is_name) := ⟨rfl, rfl, rfl, by decide +kernel, rfl, by decide +kernel, by decide +kernel⟩
theorem sc_read_word : FnScope ["word", "figures", "sign"] ["word"] (defScope st_read_word) := ⟨rfl, rfl, rfl, by decide +kernel, rfl, by decide +kernel, by decide +kernel⟩
theorem sc_read_heads : FnScope ["row", "heads", "head"] ["row"] (defScope st_read_heads) := ⟨rfl, rfl, rfl, by decide +kernel, rfl, by decide +kernel, by decide +kernel⟩
theorem sc_read_cells : FnScope ["row", "many", "found", "word", "cell"] ["row", "many"] (defScope st_read_cells) := ⟨rfl, rfl, rfl, by decide +kernel, rfl, by decide +kernel, by decide +kernel⟩
theorem sc_read_table : FnScope ["text", "first", "rest", "heads", "rows", "at", "row", "cells"] ["text"] (defScope st_read_table) := ⟨rfl, rfl, rfl, by decide +kernel, rfl, by decide +kernel, by decide +kernel⟩
theorem sc_l_pen : FnScope ["_law_script"] ["_law_script"] (defScope st_l_pen) := ⟨rfl, rfl, rfl, by decide +kernel, rfl, by decide +kernel, by decide +kernel⟩
theorem sc_l_draw : FnScope ["_law_pen_here", "_law_many", "_law_digit", "_law_turn", "_law_cell_here", "_law_primes", "_law_prime", "_law_drawn"] ["_law_pen_here", "_law_many"] (defScope st_l_draw) := ⟨rfl, rfl, rfl, by decide +kernel, rfl, by decide +kernel, by decide +kernel⟩
theorem sc_l_pick : FnScope ["_law_pen_here", "_law_some"] ["_law_pen_here", "_law_some"] (defScope st_l_pick) := ⟨rfl, rfl, rfl, by decide +kernel, rfl, by decide +kernel, by decide +kernel⟩
theorem sc_l_names : FnScope ["_law_pen_here", "_law_many", "_law_letters_here", "_law_base", "_law_at", "_law_first", "_law_cut", "_law_step", "_law_found", "_law_k", "_law_tail"] ["_law_pen_here", "_law_many"] (defScope st_l_names) := ⟨rfl, rfl, rfl, by decide +kernel, rfl, by decide +kernel, by decide +kernel⟩
theorem sc_l_scene : FnScope ["_law_pen_here", "_law_names_here", "_law_columns_here", "_law_way", "_law_turn", "_law_some", "_law_k"] ["_law_pen_here"] (defScope st_l_scene) := ⟨rfl, rfl, rfl, by decide +kernel, rfl, by decide +kernel, by decide +kernel⟩
theorem sc_l_cell : FnScope ["_law_pen_here", "_law_great", "_law_some"] ["_law_pen_here"] (defScope st_l_cell) := ⟨rfl, rfl, rfl, by decide +kernel, rfl, by decide +kernel, by decide +kernel⟩
theorem sc_l_rows : FnScope ["_law_pen_here", "_law_wide", "_law_many", "_law_rows_here", "_law_k", "_law_row", "_law_elder", "_law_at", "_law_j"] ["_law_pen_here", "_law_wide", "_law_many"] (defScope st_l_rows) := ⟨rfl, rfl, rfl, by decide +kernel, rfl, by decide +kernel, by decide +kernel⟩
theorem sc_l_columns : FnScope ["_law_pen_here", "_law_scene_here", "_law_most", "_law_found", "_law_turn", "_law_k"] ["_law_pen_here", "_law_scene_here", "_law_most"] (defScope st_l_columns) := ⟨rfl, rfl, rfl, by decide +kernel, rfl, by decide +kernel, by decide +kernel⟩
theorem sc_l_odd : FnScope ["_law_pen_here", "_law_deep", "_law_inner", "_law_some", "_law_k"] ["_law_pen_here", "_law_deep"] (defScope st_l_odd) := ⟨rfl, rfl, rfl, by decide +kernel, rfl, by decide +kernel, by decide +kernel⟩
theorem sc_l_letters : FnScope ["_law_thing", "_law_most", "_law_sign"] ["_law_thing", "_law_most"] (defScope st_l_letters) := ⟨rfl, rfl, rfl, by decide +kernel, rfl, by decide +kernel, by decide +kernel⟩
theorem sc_l_written : FnScope ["_law_thing", "_law_part"] ["_law_thing"] (defScope st_l_written) := ⟨rfl, rfl, rfl, by decide +kernel, rfl, by decide +kernel, by decide +kernel⟩
theorem sc_l_spoilt_text : FnScope ["_law_pen_here", "_law_text", "_law_signs", "_law_at", "_law_sign", "_law_way", "_law_turned"] ["_law_pen_here", "_law_text"] (defScope st_l_spoilt_text) := ⟨rfl, rfl, rfl, by decide +kernel, rfl, by decide +kernel, by decide +kernel⟩
theorem sc_l_cell_of_word : FnScope ["_law_word", "_law_figures", "_law_sign"] ["_law_word"] (defScope st_l_cell_of_word) := ⟨rfl, rfl, rfl, by decide +kernel, rfl, by decide +kernel, by decide +kernel⟩
theorem sc_l_refused_row : FnScope ["_law_call", "_law_kept", "e"] ["_law_call"] (defScope st_l_refused_row) := ⟨rfl, rfl, rfl, by decide +kernel, rfl, by decide +kernel, by decide +kernel⟩
theorem sc_l_is_name : FnScope ["_law_thing"] ["_law_thing"] (defScope st_l_is_name) := ⟨rfl, rfl, rfl, by decide +kernel, rfl, by decide +kernel, by decide +kernel⟩
theorem sc_l_table_text : FnScope ["_law_columns_here", "_law_rows_here", "_law_lines", "_law_row", "_law_cell_here"] ["_law_columns_here", "_law_rows_here"] (defScope st_l_table_text) := ⟨rfl, rfl, rfl, by decide +kernel, rfl, by decide +kernel, by decide +kernel⟩
theorem sc_l_table_of : FnScope ["_law_text", "_law_lines", "_law_columns_here", "_law_rows_here", "_law_at", "_law_cells", "_law_name", "_law_word", "_law_cell_here"] ["_law_text"] (defScope st_l_table_of) := ⟨rfl, rfl, rfl, by decide +kernel, rfl, by decide +kernel, by decide +kernel⟩
theorem sc_l_rows_turned : FnScope ["_law_pen_here", "_law_text", "_law_lines", "_law_at", "_law_way_of"] ["_law_pen_here", "_law_text"] (defScope st_l_rows_turned) := ⟨rfl, rfl, rfl, by decide +kernel, rfl, by decide +kernel, by decide +kernel⟩
theorem sc_law : FnScope ["_law_script", "_law_pen_here", "_law_scene_here", "_law_bout", "_law_columns_here", "_law_many", "_law_text", "_law_again", "_law_due", "_law_found", "_law_thing"] ["_law_script"] (defScope st_law) := ⟨rfl, rfl, rfl, by decide +kernel, rfl, by decide +kernel, by decide +kernel⟩
theorem sc_Table___init__ : FnScope ["self", "columns", "rows", "row"] ["self", "columns", "rows"] (defScope st_Table___init__) := ⟨rfl, rfl, rfl, by decide +kernel, rfl, by decide +kernel, by decide +kernel⟩
theorem sc_Table_columns : FnScope ["self"] ["self"] (defScope st_Table_columns) := ⟨rfl, rfl, rfl, by decide +kernel, rfl, by decide +kernel, by decide +kernel⟩
theorem sc_Table_rows : FnScope ["self"] ["self"] (defScope st_Table_rows) := ⟨rfl, rfl, rfl, by decide +kernel, rfl, by decide +kernel, by decide +kernel⟩
theorem ok_NoText___init__ {P : Program} {w : World} {K : PySem.W.Frag} {mg : Str → Option Value} {base : Heap} {C f : Addr} {fd : FuncData} (F : Fun K "__init__" "NoText.__init__" st_NoText___init__ f fd) (mV : mg "ValueError" = none)
    (vV : PySem.W.findCls K (.type "ValueError") (.type "type") "__init__" = some (.val (.builtin "ValueError.__init__"))) (T : OexC K C) (hno : PySem.W.findIn K (.ref C) "row" = some none) : FnOk P w K mg base (L2.CX P w) 1 f fd ["self", "row"] (spXI C "row") := by
  refine F.okX sc_NoText___init__ (fun vs H Q E ⟨a, y, e, _⟩ => by rw [e]; rfl) fun cdv A outer s H vs Q E hr ⟨a, y, e, hH, q⟩ => ?_
  subst e
  refine ⟨_, pss_cons (ps_expr (pe_veinit rfl mV vV (pa_cons (pe_var (i := 0) rfl (.inl rfl)) (pa_cons pe_str pa_nil)))) (pss_one (ps_ost (pe_var (i := 0) rfl (.inl rfl)) (pe_var (i := 1) rfl (.inl rfl)))), ?_⟩
  exact ⟨_, rfl, a, C, [.str _], rfl, by simp, T, hH, _, rfl, _, rfl, a, C, rfl, T, hno, .inl ⟨hH, fun dx n1 n2 => q dx n1 n2⟩⟩
/-- the names of the module that stand for themselves -/
structure Tb (mg : Str → Option Value) : Prop where
  ValueError : mg "ValueError" = none
  abs : mg "abs" = none
  all : mg "all" = none
  enumerate : mg "enumerate" = none
  int : mg "int" = none
  isinstance : mg "isinstance" = none
  len : mg "len" = none
  list : mg "list" = none
  range : mg "range" = none
  repr : mg "repr" = none
  set : mg "set" = none
  str : mg "str" = none
  tuple : mg "tuple" = none
  c_LETTERS : ∃ t, mg "LETTERS" = some (.str "abcdefghijklmnopqrstuvwxyz" t)
  c_FIGURES : ∃ t, mg "FIGURES" = some (.str "0123456789" t)
  c_MOST_LETTERS : ∃ t, mg "MOST_LETTERS" = some (.int 12 t)
  c_MOST_COLUMNS : ∃ t, mg "MOST_COLUMNS" = some (.int 6 t)
  c_MOST_ROWS : ∃ t, mg "MOST_ROWS" = some (.int 60 t)
structure Tc_Table (K : PySem.W.Frag) (mg : Str → Option Value) (C : Addr) : Prop where
  cls : Cls K C
  m : mg "Table" = some (.ref C)
  ic : IsC K C
  nb : NotB K C
  ni : NotI K C
  na_heads : NoAttr K C "heads"
  na_lines : NoAttr K C "lines"
section
variable {P : Program} {w : World} {K : PySem.W.Frag} {mg : Str → Option Value} {base : Heap}
/-! ## the pen: draw -/
theorem prime_at {i : Int} (h0 : 0 ≤ i) (h1 : i < 5) : ∃ q : Int, L2.atI [V.int 2147483647, V.int 2147483629, V.int 2147483587, V.int 2147483579, V.int 2147483563] i = some (.int q) ∧ 2147483563 ≤ q ∧ q ≤ 2147483647 := by
  have h : i = 0 ∨ i = 1 ∨ i = 2 ∨ i = 3 ∨ i = 4 := by omega
  rcases h with rfl | rfl | rfl | rfl | rfl
  · exact ⟨2147483647, rfl, by decide, by decide⟩
  · exact ⟨2147483629, rfl, by decide, by decide⟩
  · exact ⟨2147483587, rfl, by decide, by decide⟩
  · exact ⟨2147483579, rfl, by decide, by decide⟩
  · exact ⟨2147483563, rfl, by decide, by decide⟩
theorem ok_l_draw {f : Addr} {fd : FuncData} (D : Df K mg "_law_draw" st_l_draw ["_law_pen_here", "_law_many"] f fd) (T : Tb mg) (p : Pn) :
    FnG P w K mg base CX0 1 f fd ["_law_pen_here", "_law_many"] (spOf (PenW p) (drawS p)) := by
  refine okG D.F sc_l_draw (fun vs H Q E ⟨Ex, t, ds, Q0, _, _, _, q, ⟨many, e, _⟩, _⟩ => by rw [q.length, e]; rfl) (fun cdv A outer s H vs Q E gd hr ⟨Ex, t, ds, Q0, wo, mu, tr, q, ⟨many, e, m0, m1, ht, k⟩, fin⟩ => ?_)
  subst e
  obtain ⟨v0, r0⟩ : ∃ v, v = vs := ⟨_, rfl⟩
  have ev : vs = [.ref p, .int many] := by
    cases q with
    | cons a b => cases b with | cons c d => cases d; cases a; cases c; rfl
  subst ev
  obtain ⟨cells, turn, rest, n1, n2, hp, hc, hl, t0, t1, rest0⟩ := wo
  obtain ⟨p, c⟩ := p
  dsimp only at *
  have hu : _ + 1 < cLine := hu_of hr
  have hu64 := hr.units
  have npc : p ≠ c := ne_of hp hc (by intro z; cases z)
  have nEc : ¬ Ex c := fun m => n2 ⟨m, fun e => npc e.symm⟩
  -- the end: the pen has turned, all else stands
  have done : ∀ (x turn' rest' : Int) (H' : Hp), 0 ≤ x → x < many → 0 ≤ turn' → turn' ≤ turn + 1 → 0 ≤ rest' → H' p = some (.dK (penK c turn' rest')) → (∀ b o, H b = some o → b ≠ p → H' b = some o) → Q (.int x) H' := by
    intro x turn' rest' H' x0 x1 a0 a1 a2 hp' kp
    refine fin (.int x) (t + 1) (.int x) H' (k x x0 x1) (fun b o e n => kp b o e n) ⟨cells, turn', rest', n1, n2, hp', kp c _ hc npc.symm, hl, a0, by omega, a2⟩ (.int x)
  refine ⟨_, pss_cons (ps_if (pt_cmpR op_gt (pe_dget hu (pv 0) pe_str (fun _ _ => rfl)) pe_int (nomark _))
      (pss_cons (ps_set (i := 2) sc_l_draw.nd rfl (.inl rfl) (pe_op op_mod (pe_dget hu (pv 0) pe_str (fun _ _ => rfl)) (pv 1)))
      (pss_cons (ps_dput hu (pv 0) pe_str (pe_op op_fdiv (pe_dget hu (pv 0) pe_str (fun _ _ => rfl)) (pv 1)) rfl)
      (pss_one (ps_ret (pv 2))))) pss_nil)
    (pss_cons (ps_set (i := 3) sc_l_draw.nd rfl (.inl rfl) (pe_dget hu (pv 0) pe_str (fun _ _ => rfl)))
    (pss_cons (ps_dput hu (pv 0) pe_str (pe_op op_add (pv 3) pe_int) rfl)
    (pss_cons (ps_set (i := 4) sc_l_draw.nd rfl (.inl rfl) (pe_op op_add (pe_op op_mul pe_int (pv 3)) pe_int))
    (pss_cons (ps_if (pt_cmpR (op_neD hu64) (pe_dget hu (pv 0) pe_str (fun _ _ => rfl)) (pe_lst pa_nil) (nomark _))
      (pss_one (ps_set (i := 4) sc_l_draw.nd rfl (.inl rfl) (pe_ix ix_list (pe_dget hu (pv 0) pe_str (fun _ _ => rfl)) (pe_op op_mod (pv 3) (pe_callB call_len rfl T.len (by decide +kernel) (pa_cons (pe_dget hu (pv 0) pe_str (fun _ _ => rfl)) pa_nil))) (fun _ _ => rfl)))) pss_nil)
    (pss_cons (ps_if (PW.pt (pw_and (pt_cmpR op_lt (pv 3) (pe_callB call_len rfl T.len (by decide +kernel) (pa_cons (pe_dget hu (pv 0) pe_str (fun _ _ => rfl)) pa_nil)) (nomark _)) (pw_and1 (pt_cmpR op_ge (pe_callB call_abs rfl T.abs (by decide +kernel) (pa_cons (pv 4) pa_nil)) (pe_op op_pow pe_int pe_int) (nomark _)))))
      (pss_cons (ps_dput hu (pv 0) pe_str (pe_op op_fdiv (pe_op op_sub (pe_callB call_abs rfl T.abs (by decide +kernel) (pa_cons (pv 4) pa_nil)) (pe_op op_pow pe_int pe_int)) (pv 1)) rfl)
      (pss_one (ps_ret (pe_op op_mod (pe_op op_sub (pe_callB call_abs rfl T.abs (by decide +kernel) (pa_cons (pv 4) pa_nil)) (pe_op op_pow pe_int pe_int)) (pv 1))))) pss_nil)
    (pss_cons (ps_set (i := 5) sc_l_draw.nd rfl (.inl rfl) (pe_lst (pa_cons pe_int (pa_cons pe_int (pa_cons pe_int (pa_cons pe_int (pa_cons pe_int pa_nil)))))))
    (pss_cons (ps_set (i := 6) sc_l_draw.nd rfl (.inl rfl) (pe_ix ix_list (pv 5) (pe_op op_mod (pv 3) pe_int) (fun _ _ => rfl)))
    (pss_cons (ps_set (i := 7) sc_l_draw.nd rfl (.inl rfl) (pe_op op_mod (pe_op op_add (pe_op op_add (pe_op op_mul (pe_op op_mod (pv 4) (pv 6)) pe_int) (pe_op op_mul (pe_op op_mul pe_int (pv 3)) (pv 3))) pe_int) (pv 6)))
    (pss_cons (ps_set (i := 7) sc_l_draw.nd rfl (.inl rfl) (pe_op op_mod (pe_op op_mul (pv 7) (pe_op op_add (pv 7) pe_int)) (pe_ix ix_list (pv 5) (pe_op op_mod (pe_op op_add (pv 3) pe_int) pe_int) (fun _ _ => rfl))))
    (pss_one (ps_ret (pe_op op_mod (pe_op op_fdiv (pe_op op_mod (pe_op op_mul (pv 7) (pv 7)) pe_int) pe_int) (pv 1))))))))))))), ?_⟩
  -- if pen['rest'] > 0
  refine ⟨.ref p, rfl, p, .int rest, rfl, by rw [← pen_rest (c := c) (t := turn)]; exact DGet.k (k := kR) hp, rest, 0, rfl, rfl, _, rfl, ?_⟩
  refine ite2 (fun hre => ?_) (fun hre => ?_)
  · have hre' : 0 < rest := of_decide_eq_true hre
    refine ⟨.ref p, rfl, p, .int rest, rfl, by rw [← pen_rest (c := c) (t := turn)]; exact DGet.k (k := kR) hp, .int many, rfl, rest, many, rfl, rfl, m0, ?_⟩
    refine ⟨.ref p, rfl, p, .int rest, rfl, by rw [← pen_rest (c := c) (t := turn)]; exact DGet.k (k := kR) hp, .int many, rfl, rest, many, rfl, rfl, ⟨m0, m1⟩, ?_⟩
    refine ⟨.ref p, rfl, p, _, rfl, DPut.k (k := kR) hp (by show 3 < sizeLine; decide), ?_⟩
    refine ⟨_, rfl, ?_⟩
    rw [pen_putR]
    exact done (rest % many) turn (rest / many) _ (Int.emod_nonneg _ (by omega)) (Int.emod_lt_of_pos _ m0) t0 (by omega) (Int.ediv_nonneg (by omega) (by omega)) upd_same (fun b o e n => by rw [upd_ne n]; exact e)
  -- turn = pen['turn']; pen['turn'] = turn + 1
  refine ⟨.ref p, rfl, p, .int turn, rfl, by rw [← pen_turn (c := c) (r := rest)]; exact DGet.k (k := kT) hp, ?_⟩
  refine ⟨.int turn, rfl, turn, 1, rfl, rfl, ?_⟩
  refine ⟨.ref p, rfl, p, _, rfl, DPut.k (k := kT) hp (by show 3 < sizeLine; decide), ?_⟩
  rw [pen_putT]
  have hp1 : (upd H p (.dK (penK c (turn + 1) rest))) p = some (.dK (penK c (turn + 1) rest)) := upd_same
  have hc1 : (upd H p (.dK (penK c (turn + 1) rest))) c = some (.lst (cells.map V.int)) := by rw [upd_ne npc.symm]; exact hc
  have kp1 : ∀ b o, H b = some o → b ≠ p → (upd H p (.dK (penK c (turn + 1) rest))) b = some o := fun b o e n => by rw [upd_ne n]; exact e
  generalize upd H p (.dK (penK c (turn + 1) rest)) = H1 at hp1 hc1 kp1
  -- cell = 29 * turn + 7
  refine ⟨.int turn, rfl, 29, turn, rfl, rfl, .inl ⟨by decide, by decide⟩, _, _, rfl, rfl, ?_⟩
  -- if pen['cells'] != []
  refine ⟨.ref p, rfl, p, .ref c, rfl, by rw [← pen_cells (t := turn + 1) (r := rest)]; exact DGet.k (k := kC) hp1, Nat.zero_le _, fun q nq => ?_⟩
  have npq : p ≠ q := ne_of_none hp1 nq
  have ncq : c ≠ q := ne_of_none hc1 nq
  have hp2 : (upd H1 q (.lst [])) p = some (.dK (penK c (turn + 1) rest)) := by rw [upd_ne npq]; exact hp1
  have hc2 : (upd H1 q (.lst [])) c = some (.lst (cells.map V.int)) := by rw [upd_ne ncq]; exact hc1
  have kp2 : ∀ b o, H b = some o → b ≠ p → (upd H1 q (.lst [])) b = some o := fun b o e n => same_upd nq b o (kp1 b o e n)
  have hq2 : (upd H1 q (.lst [])) q = some (.lst []) := upd_same
  generalize upd H1 q (.lst []) = H2 at hp2 hc2 kp2 hq2
  refine ⟨.list (cells.map PyData.int), .list [], .lst (SqL.of hc2) (dp_ints cells), .lst (SqL.of hq2) .nil, shaped_ints cells, shaped_nil, _, rfl, ?_⟩
  rw [ne_nil_ints]
  refine ite2 (fun hne => ?_) (fun _ => ?_)
  · -- cell = pen['cells'][turn % len(pen['cells'])]
    have hlen : 0 < (cells.length : Int) := by
      cases hcs : cells with
      | nil => rw [hcs] at hne; cases hne
      | cons x xs => rw [List.length_cons]; omega
    have hm0 := Int.emod_nonneg turn (show (cells.length : Int) ≠ 0 by omega)
    have hm1 := Int.emod_lt_of_pos turn hlen
    have hat : ∃ x, L2.atI (cells.map V.int) (turn % (cells.length : Int)) = some (.int x) := by
      have hi : (turn % (cells.length : Int)).toNat < cells.length := by omega
      refine ⟨cells[(turn % (cells.length : Int)).toNat], ?_⟩
      have e1 : ((turn % (cells.length : Int)).toNat : Int) = turn % (cells.length : Int) := Int.toNat_of_nonneg hm0
      have e2 : (cells.map V.int)[(turn % (cells.length : Int)).toNat]? = some (.int cells[(turn % (cells.length : Int)).toNat]) := by
        rw [List.getElem?_map, List.getElem?_eq_getElem hi]
        rfl
      have e3 := L2.atI_nat e2
      rw [e1] at e3
      exact e3
    obtain ⟨x, hat⟩ := hat
    refine ⟨.ref p, rfl, p, .ref c, rfl, by rw [← pen_cells (t := turn + 1) (r := rest)]; exact DGet.k (k := kC) hp2, .int turn, rfl, .ref p, rfl, p, .ref c, rfl, by rw [← pen_cells (t := turn + 1) (r := rest)]; exact DGet.k (k := kC) hp2, .ref c, cells.length, rfl, .inl ⟨_, SqL.of hc2, by rw [List.length_map]⟩, turn, cells.length, rfl, rfl, hlen, c, _, turn % (cells.length : Int), .int x, rfl, rfl, SqL.of hc2, hat, ?_⟩
    generalize x = cell
    -- turn < len(pen['cells']) and abs(cell) >= 10 ** 18
    refine ⟨.int turn, rfl, .ref p, rfl, p, .ref c, rfl, by rw [← pen_cells (t := turn + 1) (r := rest)]; exact DGet.k (k := kC) hp2, .ref c, cells.length, rfl, .inl ⟨_, SqL.of hc2, by rw [List.length_map]⟩, turn, cells.length, rfl, rfl, _, rfl, ?_⟩
    refine ite2 (fun _ => ?_) (fun _ => ?_)
    · refine ⟨.int cell, rfl, cell, rfl, 10, 18, rfl, rfl, ⟨by decide, by decide, by decide⟩, _, _, rfl, rfl, _, rfl, ?_⟩
      refine ite2 (fun hb => ?_) (fun _ => ?_)
      · have hb' : (10 : Int) ^ (18 : Int).toNat ≤ (if cell < 0 then -cell else cell) := of_decide_eq_true hb
        refine ⟨.int cell, rfl, cell, rfl, 10, 18, rfl, rfl, ⟨by decide, by decide, by decide⟩, _, _, rfl, rfl, .int many, rfl, _, many, rfl, rfl, ⟨m0, m1⟩, ?_⟩
        refine ⟨.ref p, rfl, p, _, rfl, DPut.k (k := kR) hp2 (by show 3 < sizeLine; decide), ?_⟩
        refine ⟨.int cell, rfl, cell, rfl, 10, 18, rfl, rfl, ⟨by decide, by decide, by decide⟩, _, _, rfl, rfl, .int many, rfl, _, many, rfl, rfl, m0, ?_⟩
        rw [pen_putR]
        exact done _ (turn + 1) _ _ (Int.emod_nonneg _ (by omega)) (Int.emod_lt_of_pos _ m0) (by omega) (by omega) (Int.ediv_nonneg (Int.sub_nonneg_of_le hb') (by omega)) upd_same (fun b o e n => by rw [upd_ne n]; exact kp2 b o e n)
      ·
        -- the primes
        refine ⟨Nat.le_of_lt (by decide), fun a na => ?_⟩
        have npa : p ≠ a := ne_of_none hp2 na
        have nca : c ≠ a := ne_of_none hc2 na
        have ha : (upd H2 a (.lst [V.int 2147483647, V.int 2147483629, V.int 2147483587, V.int 2147483579, V.int 2147483563])) a = some (.lst [V.int 2147483647, V.int 2147483629, V.int 2147483587, V.int 2147483579, V.int 2147483563]) := upd_same
        have hp4 : (upd H2 a (.lst [V.int 2147483647, V.int 2147483629, V.int 2147483587, V.int 2147483579, V.int 2147483563])) p = some (.dK (penK c (turn + 1) rest)) := by rw [upd_ne npa]; exact hp2
        have kp4 : ∀ b o, H b = some o → b ≠ p → (upd H2 a (.lst [V.int 2147483647, V.int 2147483629, V.int 2147483587, V.int 2147483579, V.int 2147483563])) b = some o := fun b o e n => same_upd na b o (kp2 b o e n)
        generalize upd H2 a (.lst [V.int 2147483647, V.int 2147483629, V.int 2147483587, V.int 2147483579, V.int 2147483563]) = H4 at ha hp4 kp4
        obtain ⟨pr, epr, pr0, pr1⟩ := prime_at (i := turn % 5) (Int.emod_nonneg _ (by decide)) (Int.emod_lt_of_pos _ (by decide))
        obtain ⟨ps, eps, ps0, ps1⟩ := prime_at (i := (turn + 2) % 5) (Int.emod_nonneg _ (by decide)) (Int.emod_lt_of_pos _ (by decide))
        refine ⟨.ref a, rfl, .int turn, rfl, turn, 5, rfl, rfl, (by decide : (0 : Int) < 5), a, _, turn % 5, .int pr, rfl, rfl, SqL.of ha, epr, ?_⟩
        have c0 := Int.emod_nonneg cell (show pr ≠ 0 by omega)
        have c1 := Int.emod_lt_of_pos cell (show 0 < pr by omega)
        refine ⟨.int cell, rfl, .int pr, rfl, cell, pr, rfl, rfl, (by omega : 0 < pr), cell % pr, 48271, rfl, rfl, .inl ⟨by omega, by omega⟩, .int turn, rfl, 39373, turn, rfl, rfl, .inl ⟨by decide, by decide⟩, .int turn, rfl, 39373 * turn, turn, rfl, rfl, .inr ⟨by omega, by omega⟩, _, _, rfl, rfl, _, 13, rfl, rfl, .int pr, rfl, _, pr, rfl, rfl, (by omega : 0 < pr), ?_⟩
        dsimp only
        generalize hz : (cell % pr * 48271 + 39373 * turn * turn + 13) % pr = z
        have z0 : 0 ≤ z := by rw [← hz]; exact Int.emod_nonneg _ (by omega)
        have z1 : z < pr := by rw [← hz]; exact Int.emod_lt_of_pos _ (by omega)
        refine ⟨.int z, rfl, .int z, rfl, z, 69621, rfl, rfl, z, z + 69621, rfl, rfl, .inl ⟨by omega, by omega⟩, .ref a, rfl, .int turn, rfl, turn, 2, rfl, rfl, turn + 2, 5, rfl, rfl, (by decide : (0 : Int) < 5), a, _, (turn + 2) % 5, .int ps, rfl, rfl, SqL.of ha, eps, _, ps, rfl, rfl, (by omega : 0 < ps), ?_⟩
        dsimp only
        generalize hy : z * (z + 69621) % ps = y
        have y0 : 0 ≤ y := by rw [← hy]; exact Int.emod_nonneg _ (by omega)
        have y1 : y < ps := by rw [← hy]; exact Int.emod_lt_of_pos _ (by omega)
        refine ⟨.int y, rfl, .int y, rfl, y, y, rfl, rfl, .inl ⟨by omega, by omega⟩, _, 2147483549, rfl, rfl, (by decide : (0 : Int) < 2147483549), _, 64, rfl, rfl, ⟨by decide, by decide⟩, .int many, rfl, _, many, rfl, rfl, m0, ?_⟩
        exact done _ (turn + 1) rest H4 (Int.emod_nonneg _ (by omega)) (Int.emod_lt_of_pos _ m0) (by omega) (by omega) rest0 hp4 kp4
    ·
      -- the primes
      refine ⟨Nat.le_of_lt (by decide), fun a na => ?_⟩
      have npa : p ≠ a := ne_of_none hp2 na
      have nca : c ≠ a := ne_of_none hc2 na
      have ha : (upd H2 a (.lst [V.int 2147483647, V.int 2147483629, V.int 2147483587, V.int 2147483579, V.int 2147483563])) a = some (.lst [V.int 2147483647, V.int 2147483629, V.int 2147483587, V.int 2147483579, V.int 2147483563]) := upd_same
      have hp4 : (upd H2 a (.lst [V.int 2147483647, V.int 2147483629, V.int 2147483587, V.int 2147483579, V.int 2147483563])) p = some (.dK (penK c (turn + 1) rest)) := by rw [upd_ne npa]; exact hp2
      have kp4 : ∀ b o, H b = some o → b ≠ p → (upd H2 a (.lst [V.int 2147483647, V.int 2147483629, V.int 2147483587, V.int 2147483579, V.int 2147483563])) b = some o := fun b o e n => same_upd na b o (kp2 b o e n)
      generalize upd H2 a (.lst [V.int 2147483647, V.int 2147483629, V.int 2147483587, V.int 2147483579, V.int 2147483563]) = H4 at ha hp4 kp4
      obtain ⟨pr, epr, pr0, pr1⟩ := prime_at (i := turn % 5) (Int.emod_nonneg _ (by decide)) (Int.emod_lt_of_pos _ (by decide))
      obtain ⟨ps, eps, ps0, ps1⟩ := prime_at (i := (turn + 2) % 5) (Int.emod_nonneg _ (by decide)) (Int.emod_lt_of_pos _ (by decide))
      refine ⟨.ref a, rfl, .int turn, rfl, turn, 5, rfl, rfl, (by decide : (0 : Int) < 5), a, _, turn % 5, .int pr, rfl, rfl, SqL.of ha, epr, ?_⟩
      have c0 := Int.emod_nonneg cell (show pr ≠ 0 by omega)
      have c1 := Int.emod_lt_of_pos cell (show 0 < pr by omega)
      refine ⟨.int cell, rfl, .int pr, rfl, cell, pr, rfl, rfl, (by omega : 0 < pr), cell % pr, 48271, rfl, rfl, .inl ⟨by omega, by omega⟩, .int turn, rfl, 39373, turn, rfl, rfl, .inl ⟨by decide, by decide⟩, .int turn, rfl, 39373 * turn, turn, rfl, rfl, .inr ⟨by omega, by omega⟩, _, _, rfl, rfl, _, 13, rfl, rfl, .int pr, rfl, _, pr, rfl, rfl, (by omega : 0 < pr), ?_⟩
      dsimp only
      generalize hz : (cell % pr * 48271 + 39373 * turn * turn + 13) % pr = z
      have z0 : 0 ≤ z := by rw [← hz]; exact Int.emod_nonneg _ (by omega)
      have z1 : z < pr := by rw [← hz]; exact Int.emod_lt_of_pos _ (by omega)
      refine ⟨.int z, rfl, .int z, rfl, z, 69621, rfl, rfl, z, z + 69621, rfl, rfl, .inl ⟨by omega, by omega⟩, .ref a, rfl, .int turn, rfl, turn, 2, rfl, rfl, turn + 2, 5, rfl, rfl, (by decide : (0 : Int) < 5), a, _, (turn + 2) % 5, .int ps, rfl, rfl, SqL.of ha, eps, _, ps, rfl, rfl, (by omega : 0 < ps), ?_⟩
      dsimp only
      generalize hy : z * (z + 69621) % ps = y
      have y0 : 0 ≤ y := by rw [← hy]; exact Int.emod_nonneg _ (by omega)
      have y1 : y < ps := by rw [← hy]; exact Int.emod_lt_of_pos _ (by omega)
      refine ⟨.int y, rfl, .int y, rfl, y, y, rfl, rfl, .inl ⟨by omega, by omega⟩, _, 2147483549, rfl, rfl, (by decide : (0 : Int) < 2147483549), _, 64, rfl, rfl, ⟨by decide, by decide⟩, .int many, rfl, _, many, rfl, rfl, m0, ?_⟩
      exact done _ (turn + 1) rest H4 (Int.emod_nonneg _ (by omega)) (Int.emod_lt_of_pos _ m0) (by omega) (by omega) rest0 hp4 kp4
  · dsimp only
    generalize 29 * turn + 7 = cell
    -- turn < len(pen['cells']) and abs(cell) >= 10 ** 18
    refine ⟨.int turn, rfl, .ref p, rfl, p, .ref c, rfl, by rw [← pen_cells (t := turn + 1) (r := rest)]; exact DGet.k (k := kC) hp2, .ref c, cells.length, rfl, .inl ⟨_, SqL.of hc2, by rw [List.length_map]⟩, turn, cells.length, rfl, rfl, _, rfl, ?_⟩
    refine ite2 (fun _ => ?_) (fun _ => ?_)
    · refine ⟨.int cell, rfl, cell, rfl, 10, 18, rfl, rfl, ⟨by decide, by decide, by decide⟩, _, _, rfl, rfl, _, rfl, ?_⟩
      refine ite2 (fun hb => ?_) (fun _ => ?_)
      · have hb' : (10 : Int) ^ (18 : Int).toNat ≤ (if cell < 0 then -cell else cell) := of_decide_eq_true hb
        refine ⟨.int cell, rfl, cell, rfl, 10, 18, rfl, rfl, ⟨by decide, by decide, by decide⟩, _, _, rfl, rfl, .int many, rfl, _, many, rfl, rfl, ⟨m0, m1⟩, ?_⟩
        refine ⟨.ref p, rfl, p, _, rfl, DPut.k (k := kR) hp2 (by show 3 < sizeLine; decide), ?_⟩
        refine ⟨.int cell, rfl, cell, rfl, 10, 18, rfl, rfl, ⟨by decide, by decide, by decide⟩, _, _, rfl, rfl, .int many, rfl, _, many, rfl, rfl, m0, ?_⟩
        rw [pen_putR]
        exact done _ (turn + 1) _ _ (Int.emod_nonneg _ (by omega)) (Int.emod_lt_of_pos _ m0) (by omega) (by omega) (Int.ediv_nonneg (Int.sub_nonneg_of_le hb') (by omega)) upd_same (fun b o e n => by rw [upd_ne n]; exact kp2 b o e n)
      ·
        -- the primes
        refine ⟨Nat.le_of_lt (by decide), fun a na => ?_⟩
        have npa : p ≠ a := ne_of_none hp2 na
        have nca : c ≠ a := ne_of_none hc2 na
        have ha : (upd H2 a (.lst [V.int 2147483647, V.int 2147483629, V.int 2147483587, V.int 2147483579, V.int 2147483563])) a = some (.lst [V.int 2147483647, V.int 2147483629, V.int 2147483587, V.int 2147483579, V.int 2147483563]) := upd_same
        have hp4 : (upd H2 a (.lst [V.int 2147483647, V.int 2147483629, V.int 2147483587, V.int 2147483579, V.int 2147483563])) p = some (.dK (penK c (turn + 1) rest)) := by rw [upd_ne npa]; exact hp2
        have kp4 : ∀ b o, H b = some o → b ≠ p → (upd H2 a (.lst [V.int 2147483647, V.int 2147483629, V.int 2147483587, V.int 2147483579, V.int 2147483563])) b = some o := fun b o e n => same_upd na b o (kp2 b o e n)
        generalize upd H2 a (.lst [V.int 2147483647, V.int 2147483629, V.int 2147483587, V.int 2147483579, V.int 2147483563]) = H4 at ha hp4 kp4
        obtain ⟨pr, epr, pr0, pr1⟩ := prime_at (i := turn % 5) (Int.emod_nonneg _ (by decide)) (Int.emod_lt_of_pos _ (by decide))
        obtain ⟨ps, eps, ps0, ps1⟩ := prime_at (i := (turn + 2) % 5) (Int.emod_nonneg _ (by decide)) (Int.emod_lt_of_pos _ (by decide))
        refine ⟨.ref a, rfl, .int turn, rfl, turn, 5, rfl, rfl, (by decide : (0 : Int) < 5), a, _, turn % 5, .int pr, rfl, rfl, SqL.of ha, epr, ?_⟩
        have c0 := Int.emod_nonneg cell (show pr ≠ 0 by omega)
        have c1 := Int.emod_lt_of_pos cell (show 0 < pr by omega)
        refine ⟨.int cell, rfl, .int pr, rfl, cell, pr, rfl, rfl, (by omega : 0 < pr), cell % pr, 48271, rfl, rfl, .inl ⟨by omega, by omega⟩, .int turn, rfl, 39373, turn, rfl, rfl, .inl ⟨by decide, by decide⟩, .int turn, rfl, 39373 * turn, turn, rfl, rfl, .inr ⟨by omega, by omega⟩, _, _, rfl, rfl, _, 13, rfl, rfl, .int pr, rfl, _, pr, rfl, rfl, (by omega : 0 < pr), ?_⟩
        dsimp only
        generalize hz : (cell % pr * 48271 + 39373 * turn * turn + 13) % pr = z
        have z0 : 0 ≤ z := by rw [← hz]; exact Int.emod_nonneg _ (by omega)
        have z1 : z < pr := by rw [← hz]; exact Int.emod_lt_of_pos _ (by omega)
        refine ⟨.int z, rfl, .int z, rfl, z, 69621, rfl, rfl, z, z + 69621, rfl, rfl, .inl ⟨by omega, by omega⟩, .ref a, rfl, .int turn, rfl, turn, 2, rfl, rfl, turn + 2, 5, rfl, rfl, (by decide : (0 : Int) < 5), a, _, (turn + 2) % 5, .int ps, rfl, rfl, SqL.of ha, eps, _, ps, rfl, rfl, (by omega : 0 < ps), ?_⟩
        dsimp only
        generalize hy : z * (z + 69621) % ps = y
        have y0 : 0 ≤ y := by rw [← hy]; exact Int.emod_nonneg _ (by omega)
        have y1 : y < ps := by rw [← hy]; exact Int.emod_lt_of_pos _ (by omega)
        refine ⟨.int y, rfl, .int y, rfl, y, y, rfl, rfl, .inl ⟨by omega, by omega⟩, _, 2147483549, rfl, rfl, (by decide : (0 : Int) < 2147483549), _, 64, rfl, rfl, ⟨by decide, by decide⟩, .int many, rfl, _, many, rfl, rfl, m0, ?_⟩
        exact done _ (turn + 1) rest H4 (Int.emod_nonneg _ (by omega)) (Int.emod_lt_of_pos _ m0) (by omega) (by omega) rest0 hp4 kp4
    ·
      -- the primes
      refine ⟨Nat.le_of_lt (by decide), fun a na => ?_⟩
      have npa : p ≠ a := ne_of_none hp2 na
      have nca : c ≠ a := ne_of_none hc2 na
      have ha : (upd H2 a (.lst [V.int 2147483647, V.int 2147483629, V.int 2147483587, V.int 2147483579, V.int 2147483563])) a = some (.lst [V.int 2147483647, V.int 2147483629, V.int 2147483587, V.int 2147483579, V.int 2147483563]) := upd_same
      have hp4 : (upd H2 a (.lst [V.int 2147483647, V.int 2147483629, V.int 2147483587, V.int 2147483579, V.int 2147483563])) p = some (.dK (penK c (turn + 1) rest)) := by rw [upd_ne npa]; exact hp2
      have kp4 : ∀ b o, H b = some o → b ≠ p → (upd H2 a (.lst [V.int 2147483647, V.int 2147483629, V.int 2147483587, V.int 2147483579, V.int 2147483563])) b = some o := fun b o e n => same_upd na b o (kp2 b o e n)
      generalize upd H2 a (.lst [V.int 2147483647, V.int 2147483629, V.int 2147483587, V.int 2147483579, V.int 2147483563]) = H4 at ha hp4 kp4
      obtain ⟨pr, epr, pr0, pr1⟩ := prime_at (i := turn % 5) (Int.emod_nonneg _ (by decide)) (Int.emod_lt_of_pos _ (by decide))
      obtain ⟨ps, eps, ps0, ps1⟩ := prime_at (i := (turn + 2) % 5) (Int.emod_nonneg _ (by decide)) (Int.emod_lt_of_pos _ (by decide))
      refine ⟨.ref a, rfl, .int turn, rfl, turn, 5, rfl, rfl, (by decide : (0 : Int) < 5), a, _, turn % 5, .int pr, rfl, rfl, SqL.of ha, epr, ?_⟩
      have c0 := Int.emod_nonneg cell (show pr ≠ 0 by omega)
      have c1 := Int.emod_lt_of_pos cell (show 0 < pr by omega)
      refine ⟨.int cell, rfl, .int pr, rfl, cell, pr, rfl, rfl, (by omega : 0 < pr), cell % pr, 48271, rfl, rfl, .inl ⟨by omega, by omega⟩, .int turn, rfl, 39373, turn, rfl, rfl, .inl ⟨by decide, by decide⟩, .int turn, rfl, 39373 * turn, turn, rfl, rfl, .inr ⟨by omega, by omega⟩, _, _, rfl, rfl, _, 13, rfl, rfl, .int pr, rfl, _, pr, rfl, rfl, (by omega : 0 < pr), ?_⟩
      dsimp only
      generalize hz : (cell % pr * 48271 + 39373 * turn * turn + 13) % pr = z
      have z0 : 0 ≤ z := by rw [← hz]; exact Int.emod_nonneg _ (by omega)
      have z1 : z < pr := by rw [← hz]; exact Int.emod_lt_of_pos _ (by omega)
      refine ⟨.int z, rfl, .int z, rfl, z, 69621, rfl, rfl, z, z + 69621, rfl, rfl, .inl ⟨by omega, by omega⟩, .ref a, rfl, .int turn, rfl, turn, 2, rfl, rfl, turn + 2, 5, rfl, rfl, (by decide : (0 : Int) < 5), a, _, (turn + 2) % 5, .int ps, rfl, rfl, SqL.of ha, eps, _, ps, rfl, rfl, (by omega : 0 < ps), ?_⟩
      dsimp only
      generalize hy : z * (z + 69621) % ps = y
      have y0 : 0 ≤ y := by rw [← hy]; exact Int.emod_nonneg _ (by omega)
      have y1 : y < ps := by rw [← hy]; exact Int.emod_lt_of_pos _ (by omega)
      refine ⟨.int y, rfl, .int y, rfl, y, y, rfl, rfl, .inl ⟨by omega, by omega⟩, _, 2147483549, rfl, rfl, (by decide : (0 : Int) < 2147483549), _, 64, rfl, rfl, ⟨by decide, by decide⟩, .int many, rfl, _, many, rfl, rfl, m0, ?_⟩
      exact done _ (turn + 1) rest H4 (Int.emod_nonneg _ (by omega)) (Int.emod_lt_of_pos _ m0) (by omega) (by omega) rest0 hp4 kp4

theorem ok_l_pick {f f1 : Addr} {fd fd1 : FuncData} (D_l_pick : Df K mg "_law_pick" st_l_pick ["_law_pen_here", "_law_some"] f fd) (T : Tb mg) (p : Pn) (D_l_draw : Df K mg "_law_draw" st_l_draw ["_law_pen_here", "_law_many"] f1 fd1) :
    FnG P w K mg base CX0 2 f fd ["_law_pen_here", "_law_some"] (spOf (PenW p) (pickS p)) := by
  have G_l_draw := ok_l_draw (P := P) (w := w) (base := base) D_l_draw T p
  refine okD D_l_pick.F sc_l_pick (by rintro _ _ _ ⟨s, xs, rfl, _⟩; rfl) ?_
  rintro cdv A outer s H E _ t Q gd hr ⟨s, xs, rfl, hs, h0, h1, ht, q⟩
  refine ⟨_, (dss_one (ds_ret (de_ix (de_v 1) (de_cl G_l_draw gd (hr.mono (by decide)) rfl D_l_draw.m D_l_draw.F.kp D_l_draw.b .nil .nil (dl_cons (de_v 0) (dl_cons (de_f1 f_len rfl T.len (by decide +kernel) (de_v 1)) dl_nil)))))), ?_⟩
  have go : ∀ k : Int, 0 ≤ k → k < xs.length → ∃ z, ixD s (.int k) = some z ∧ Q z (t + 1) := by
    intro k k0 k1
    rcases hs with rfl | rfl | ⟨z, rfl, rfl⟩
    · obtain ⟨x, e, hx⟩ := atI_in k0 k1
      exact ⟨x, e, q x hx⟩
    · obtain ⟨x, e, hx⟩ := atI_in k0 k1
      exact ⟨x, e, q x hx⟩
    · rw [signs_len] at k1 h1
      have k1' : k < z.cps.toList.length := by rw [Array.length_toList]; exact k1
      obtain ⟨c, e, hc⟩ := atI_in k0 k1'
      refine ⟨.str ⟨#[c]⟩, ?_, q _ (List.mem_map.mpr ⟨c, hc, rfl⟩)⟩
      show (if z.length ≤ sizeLine then (L2.atI z.cps.toList k).map fun c => D.str ⟨#[c]⟩ else none) = _
      rw [if_pos (line1000 h1), e]
      rfl
  have hl : lenD s = some (.int xs.length) := by
    rcases hs with rfl | rfl | ⟨z, rfl, rfl⟩
    · rfl
    · rfl
    · rw [signs_len] at h1 ⊢
      show (if z.length ≤ sizeLine then some (D.int z.length) else none) = _
      rw [if_pos (line1000 h1)]
  refine ⟨_, rfl, _, rfl, _, rfl, .int xs.length, hl, xs.length, rfl, by omega, by omega, ht, fun k k0 k1 => ?_⟩
  exact go k k0 k1

theorem ok_l_pen {f : Addr} {fd : FuncData} (D_l_pen : Df K mg "_law_pen" st_l_pen ["_law_script"] f fd) (T : Tb mg) : FnG P w K mg base CX0 1 f fd ["_law_script"] (penSp K 63) := by
  refine okG D_l_pen.F sc_l_pen (fun vs H Q E ⟨a, ns, e, _⟩ => by rw [e]; rfl) (fun cdv A outer s H vs Q E gd hr ⟨a, ns, e, hl, q⟩ => ?_)
  subst e
  refine ⟨_, pss_one (ps_ret (pe_disp (pps_cons pe_str (pe_callTy call_list_of rfl T.list (by decide +kernel) (pa_cons (pe_slice sl_list (pv 0) po_none (po_some pe_int)) pa_nil)) (pps_cons pe_str pe_int (pps_cons pe_str pe_int pps_nil))) rfl rfl (fun z => by cases z) (by decide))), ?_⟩
  intro p hp
  have x1 : ∀ b o, H b = some o → (upd H p (.dK [])) b = some o := fun b o e => same_upd hp b o e
  refine ⟨.ref a, rfl, 63, rfl, a, _, rfl, sqL_mono hl x1, fun s1 hs1 => ?_⟩
  have x2 : ∀ b o, (upd H p (.dK [])) b = some o → (upd (upd H p (.dK [])) s1 (.lst (cutV (ns.map V.int) none (some 63)))) b = some o := fun b o e => same_upd hs1 b o e
  refine ⟨s1, _, rfl, .inl (SqL.of upd_same), fun l hl' => ?_⟩
  have pl : H l = none := by
    cases e : H l with
    | none => rfl
    | some o => rw [x2 l o (x1 l o e)] at hl'; cases hl'
  have npl : p ≠ l := fun e => by subst e; rw [x2 _ _ upd_same] at hl'; cases hl'
  have hpp : (upd (upd (upd H p (.dK [])) s1 (.lst (cutV (ns.map V.int) none (some 63)))) l (.lst (cutV (ns.map V.int) none (some 63)))) p = some (.dK []) := by
    rw [upd_ne npl]
    exact x2 _ _ upd_same
  refine ⟨hpp, [(kC, .ref l), (kT, .int 0), (kR, .int 0)], rfl, (by show 3 ≤ 15; decide), q ⟨p, l⟩ ((ns.drop (HT.sIx ns.length 0 none)).take (HT.sIx ns.length ns.length (some 63) - HT.sIx ns.length 0 none)) _ hp pl ?_ ?_ ?_ ?_⟩
  · rw [List.length_take, HT.sIx_none]
    have := HT.sIx_nat ns.length ns.length 63
    have e : HT.sIx ns.length ns.length (some 63) = min 63 ns.length := this
    omega
  · intro b o e
    have nb : b ≠ p := ne_of_none e hp
    rw [upd_ne nb]
    exact same_upd hl' b o (x2 b o (x1 b o e))
  · rw [upd_same]
    rfl
  · rw [upd_ne npl.symm, upd_same, cutV_ints]


end
end Law

namespace Law
open PySem PySem.Spec PyProof.Rows L2 Tk
section
variable {P : Program} {w : World} {K : PySem.W.Frag} {mg : Str → Option Value} {base : Heap}
theorem ok_l_cell {f f1 f2 : Addr} {fd fd1 fd2 : FuncData} (D_l_cell : Df K mg "_law_cell" st_l_cell ["_law_pen_here"] f fd) (T : Tb mg) (p : Pn) (D_l_draw : Df K mg "_law_draw" st_l_draw ["_law_pen_here", "_law_many"] f1 fd1) (D_l_pick : Df K mg "_law_pick" st_l_pick ["_law_pen_here", "_law_some"] f2 fd2) :
    FnG P w K mg base CX0 3 f fd ["_law_pen_here"] (spOf (PenW p) (lcellS p)) := by
  have G_l_draw := ok_l_draw (P := P) (w := w) (base := base) D_l_draw T p
  have G_l_pick := ok_l_pick (P := P) (w := w) (base := base) D_l_pick T p D_l_draw
  refine okD D_l_cell.F sc_l_cell (by rintro _ _ _ ⟨rfl, _⟩; rfl) ?_
  rintro cdv A outer s H E _ t Q gd hr ⟨rfl, ht, q⟩
  have hu := hr.units
  refine ⟨_, (dss_cons (ds_set (i := 1) sc_l_cell.nd rfl (.inl rfl) (de_op o_mul2 (de_op o_sub (de_op o_sub (de_op o_pow de_int de_int) de_int) (de_cl G_l_draw gd (hr.mono (by decide)) rfl D_l_draw.m D_l_draw.F.kp D_l_draw.b .nil .nil (dl_cons (de_v 0) (dl_cons de_int dl_nil)))) (de_op o_sub de_int (de_op o_mul2 de_int (de_cl G_l_draw gd (hr.mono (by decide)) rfl D_l_draw.m D_l_draw.F.kp D_l_draw.b .nil .nil (dl_cons (de_v 0) (dl_cons de_int dl_nil)))))))
    (dss_cons (ds_own (i := 2) sc_l_cell.nd rfl (.inl rfl) (df_lst (dl_cons de_non (dl_cons (de_cl G_l_draw gd (hr.mono (by decide)) rfl D_l_draw.m D_l_draw.F.kp D_l_draw.b .nil .nil (dl_cons (de_v 0) (dl_cons de_int dl_nil))) (dl_cons (de_cl G_l_draw gd (hr.mono (by decide)) rfl D_l_draw.m D_l_draw.F.kp D_l_draw.b .nil .nil (dl_cons (de_v 0) (dl_cons de_int dl_nil))) (dl_cons (de_op o_sub de_int (de_cl G_l_draw gd (hr.mono (by decide)) rfl D_l_draw.m D_l_draw.F.kp D_l_draw.b .nil .nil (dl_cons (de_v 0) (dl_cons de_int dl_nil)))) (dl_cons (de_cl G_l_pick gd (hr.mono (by decide)) rfl D_l_pick.m D_l_pick.F.kp D_l_pick.b .nil .nil (dl_cons (de_v 0) (dl_cons (de_lst (dl_cons de_int (dl_cons de_int (dl_cons de_int (dl_cons de_int dl_nil))))) dl_nil))) dl_nil)))))))
    (dss_cons (ds_app (i := 2) rfl (.inl rfl) (de_cl G_l_pick gd (hr.mono (by decide)) rfl D_l_pick.m D_l_pick.F.kp D_l_pick.b .nil .nil (dl_cons (de_v 0) (dl_cons (de_lst (dl_cons de_str (dl_cons de_str (dl_cons de_str (dl_cons de_str (dl_cons de_str (dl_cons de_str (dl_cons de_str dl_nil)))))))) dl_nil))))
    (dss_cons (ds_app (i := 2) rfl (.inl rfl) (de_if (dp_cmp (o_eq2 hu) (de_cl G_l_draw gd (hr.mono (by decide)) rfl D_l_draw.m D_l_draw.F.kp D_l_draw.b .nil .nil (dl_cons (de_v 0) (dl_cons de_int dl_nil))) de_int (nomark _)) (de_v 1) (de_op o_sub (de_cl G_l_draw gd (hr.mono (by decide)) rfl D_l_draw.m D_l_draw.F.kp D_l_draw.b .nil .nil (dl_cons (de_v 0) (dl_cons de_int dl_nil))) de_int)))
    (dss_one (ds_ret (de_ix (db_o 2) (de_ix (de_lst (dl_cons de_int (dl_cons de_int (dl_cons de_int (dl_cons de_int (dl_cons de_int (dl_cons de_int (dl_cons de_int (dl_cons de_int (dl_cons de_int (dl_cons de_int dl_nil))))))))))) (de_cl G_l_draw gd (hr.mono (by decide)) rfl D_l_draw.m D_l_draw.F.kp D_l_draw.b .nil .nil (dl_cons (de_v 0) (dl_cons de_int dl_nil))))))))))), ?_⟩
  refine ⟨_, rfl, _, rfl, _, rfl, 3, rfl, by decide, by decide, by omega, fun k1 a1 b1 => ⟨_, rfl, ?_⟩⟩
  refine ⟨_, rfl, 2, rfl, by decide, by decide, by omega, fun k2 a2 b2 => ⟨_, mul_ok (by omega), _, rfl, _, mul_ok (by omega), ?_⟩⟩
  refine ⟨_, rfl, 3, rfl, by decide, by decide, by omega, fun k3 a3 b3 => ⟨_, rfl, 3, rfl, by decide, by decide, by omega, fun k4 a4 b4 => ?_⟩⟩
  refine ⟨_, rfl, 12, rfl, by decide, by decide, by omega, fun k5 a5 b5 => ⟨_, rfl, ?_⟩⟩
  refine ⟨_, rfl, by decide, _, _, rfl, .inl rfl, by decide, by decide, by omega, fun x1 m1 => ⟨(by show 5 ≤ sizeLine; decide), ?_⟩⟩
  refine ⟨_, rfl, _, rfl, by decide, _, _, rfl, .inl rfl, by decide, by decide, by omega, fun x2 m2 => ⟨(by show 5 < sizeLine; decide), ?_⟩⟩
  have h1 : cellD x1 = true := by
    simp only [List.mem_cons, List.not_mem_nil, or_false] at m1
    rcases m1 with rfl | rfl | rfl | rfl <;> decide
  have h2 : cellD x2 = true := by
    simp only [List.mem_cons, List.not_mem_nil, or_false] at m2
    rcases m2 with rfl | rfl | rfl | rfl | rfl | rfl | rfl <;> decide +kernel
  have hi : ∀ i : Int, -999999999999999 ≤ i → i ≤ 999999999999999 → cellD (.int i) = true := by
    intro i l h
    simp [cellD, numD, l, h]
  have fin : ∀ (x : D) (t' : Nat), cellD x = true → t' ≤ t + 11 → dRet (dOp (W := PenW p) ixD (dO 2) (dOp ixD (dLst (dCons (dC (.int 0)) (dCons (dC (.int 1)) (dCons (dC (.int 1)) (dCons (dC (.int 2)) (dCons (dC (.int 2)) (dCons (dC (.int 3)) (dCons (dC (.int 4)) (dCons (dC (.int 5)) (dCons (dC (.int 5)) (dCons (dC (.int 6)) dNil))))))))))) (dCall (drawS p) [] (dCons (dV 0) (dCons (dC (.int 10)) dNil)))))
      { nx := fun _ ω' => Q .non ω', rt := Q } [some (.d (.ob p)), some (.d (.int ((10 ^ 15 - 1 - k1) * (1 - 2 * k2)))), some (.own [.non, .int k3, .int k4, .int (2 - k5), x1, x2, x])] t' := by
    intro x t' hx ht'
    refine .inl ⟨_, rfl, by decide, _, rfl, 10, rfl, by decide, by decide, by omega, fun k a b => ?_⟩
    have hk : k = 0 ∨ k = 1 ∨ k = 2 ∨ k = 3 ∨ k = 4 ∨ k = 5 ∨ k = 6 ∨ k = 7 ∨ k = 8 ∨ k = 9 := by omega
    rcases hk with rfl | rfl | rfl | rfl | rfl | rfl | rfl | rfl | rfl | rfl
    · exact ⟨_, rfl, _, rfl, q _ _ rfl (by omega)⟩
    · exact ⟨_, rfl, _, rfl, q _ _ (hi _ (by omega) (by omega)) (by omega)⟩
    · exact ⟨_, rfl, _, rfl, q _ _ (hi _ (by omega) (by omega)) (by omega)⟩
    · exact ⟨_, rfl, _, rfl, q _ _ (hi _ (by omega) (by omega)) (by omega)⟩
    · exact ⟨_, rfl, _, rfl, q _ _ (hi _ (by omega) (by omega)) (by omega)⟩
    · exact ⟨_, rfl, _, rfl, q _ _ (hi _ (by omega) (by omega)) (by omega)⟩
    · exact ⟨_, rfl, _, rfl, q _ _ h1 (by omega)⟩
    · exact ⟨_, rfl, _, rfl, q _ _ h2 (by omega)⟩
    · exact ⟨_, rfl, _, rfl, q _ _ h2 (by omega)⟩
    · exact ⟨_, rfl, _, rfl, q _ _ hx (by omega)⟩
  refine ⟨_, rfl, _, rfl, 4, rfl, by decide, by decide, by omega, fun k6 a6 b6 => ⟨_, eqi, _, rfl, ?_⟩⟩
  refine ite_i (fun _ => ?_) fun _ => ?_
  · refine ⟨_, rfl, (by show 6 < sizeLine; decide), fin _ _ ?_ (by omega)⟩
    have hk : k2 = 0 ∨ k2 = 1 := by omega
    have e15 : (10 : Int) ^ Int.toNat 15 = 1000000000000000 := by decide
    rcases hk with rfl | rfl
    · exact hi _ (by omega) (by omega)
    · exact hi _ (by omega) (by omega)
  · refine ⟨_, rfl, 1000, rfl, by decide, by decide, by omega, fun k7 a7 b7 => ⟨_, rfl, (by show 6 < sizeLine; decide), fin _ _ (hi _ (by omega) (by omega)) (by omega)⟩⟩


end
end Law

namespace Law
open PySem PySem.Spec PyProof.Rows L2 Tk
section
variable {P : Program} {w : World} {K : PySem.W.Frag} {mg : Str → Option Value} {base : Heap}
/-! ## names -/
def namesS (p : Pn) (ds : List D) (t : Nat) (Q : D → Nat → Prop) : Prop := ∃ n : Nat, ds = [.ob p, .int (n : Int)] ∧ 1 ≤ n ∧ n ≤ 13 ∧ t + 20 < 2 ^ 60 ∧ ∀ (ys : List (List Nat)) (t' : Nat), ys.length = n → Nms ys → t' ≤ t + 20 → Q (.lst (nmD ys)) t'
theorem ok_l_names {f_l_names : Addr} {fd_l_names : FuncData} (D_l_names : Df K mg "_law_names" st_l_names ["_law_pen_here", "_law_many"] f_l_names fd_l_names)
    {f_l_draw : Addr} {fd_l_draw : FuncData} (D_l_draw : Df K mg "_law_draw" st_l_draw ["_law_pen_here", "_law_many"] f_l_draw fd_l_draw)
    {f_l_pick : Addr} {fd_l_pick : FuncData} (D_l_pick : Df K mg "_law_pick" st_l_pick ["_law_pen_here", "_law_some"] f_l_pick fd_l_pick) (T : Tb mg) (p : Pn) :
    FnG P w K mg base CX0 3 f_l_names fd_l_names ["_law_pen_here", "_law_many"] (spOf (PenW p) (namesS p)) := by
  have G_l_draw := ok_l_draw (P := P) (w := w) (base := base) D_l_draw T p
  have G_l_pick := ok_l_pick (P := P) (w := w) (base := base) D_l_pick T p D_l_draw
  refine okD D_l_names.F sc_l_names (by rintro _ _ _ ⟨_, rfl, _⟩; rfl) ?_
  rintro cdv A outer s H E _ (t : Nat) Q gd hr ⟨n, rfl, n1, n13, ht, q⟩
  have hu := hr.units
  refine ⟨_, (dss_cons (ds_set (i := 2) sc_l_names.nd rfl (.inr rfl) de_str)
    (dss_cons (ds_set (i := 3) sc_l_names.nd rfl (.inl rfl) (de_join de_str (de_lc (own := [("_law_k", 9)]) rfl sc_l_names.nd (di_rng1 rfl T.range (de_op o_add de_int (de_cl G_l_draw gd (hr.mono (by decide)) rfl D_l_draw.m D_l_draw.F.kp D_l_draw.b .nil .nil (dl_cons (de_v 0) (dl_cons de_int dl_nil))))) (blkOk_by (own := [("_law_k", 9)]) (N := ["_law_pen_here", "_law_many", "_law_letters_here", "_law_base", "_law_at", "_law_first", "_law_cut", "_law_step", "_law_found", "_law_k", "_law_tail"]) (sc := defScope st_l_names) (by decide +kernel)) (gf_name 9) (fun _ _ _ _ _ => (pg_name (i := 9) sc_l_names.nd rfl (.inl rfl))) ts_nil (fun _ _ _ _ _ => (de_cl G_l_pick gd (hr.mono (by decide)) rfl D_l_pick.m D_l_pick.F.kp D_l_pick.b .nil .nil (dl_cons (de_v 0) (dl_cons (de_v 2) dl_nil)))))))
    (dss_cons (ds_par3 (i := 4) (j := 5) (k := 6) rfl sc_l_names.nd rfl rfl rfl (by decide) (by decide) (by decide) rfl rfl rfl (de_cl G_l_draw gd (hr.mono (by decide)) rfl D_l_draw.m D_l_draw.F.kp D_l_draw.b .nil .nil (dl_cons (de_v 0) (dl_cons (de_f1 f_len rfl T.len (by decide +kernel) (de_v 3)) dl_nil))) (de_cl G_l_draw gd (hr.mono (by decide)) rfl D_l_draw.m D_l_draw.F.kp D_l_draw.b .nil .nil (dl_cons (de_v 0) (dl_cons de_int dl_nil))) (de_cl G_l_draw gd (hr.mono (by decide)) rfl D_l_draw.m D_l_draw.F.kp D_l_draw.b .nil .nil (dl_cons (de_v 0) (dl_cons de_int dl_nil))) (by rfl))
    (dss_cons (ds_parDF (i := 7) (j := 8) rfl sc_l_names.nd rfl rfl (by decide) rfl rfl (de_cl G_l_pick gd (hr.mono (by decide)) rfl D_l_pick.m D_l_pick.F.kp D_l_pick.b .nil .nil (dl_cons (de_v 0) (dl_cons (de_lst (dl_cons de_int (dl_cons de_int (dl_cons de_int (dl_cons de_int (dl_cons de_int (dl_cons de_int (dl_cons de_int (dl_cons de_int (dl_cons de_int (dl_cons de_int (dl_cons de_int (dl_cons de_int dl_nil))))))))))))) dl_nil))) (df_lst dl_nil) (by rfl))
    (dss_cons (ds_for PassesOwn.never rfl (di_rng1 rfl T.range (de_v 1)) (gf_name 9) (pg_name (i := 9) sc_l_names.nd rfl (.inl rfl))
      (dss_cons (ds_set (i := 10) sc_l_names.nd rfl (.inl rfl) (de_sl (de_sl (de_v 3) (do_some (de_op o_add (de_v 4) de_int)) do_no) do_no (do_some (de_ix (de_lst (dl_cons de_int (dl_cons (de_op o_mod (de_v 9) de_int) dl_nil))) (de_v 6)))))
      (dss_one (ds_app (i := 8) rfl (.inl rfl) (de_op o_add (de_op o_add (de_sl (de_v 3) do_no (do_some (de_v 4))) (de_ix (de_v 2) (de_op o_mod (de_op o_add (de_v 5) (de_op o_mul2 (de_v 7) (de_v 9))) de_int))) (de_v 10))))))
    (dss_cons (ds_if (DW.dp (dw_and (dp_cmp o_gt (de_v 4) de_int (nomark _)) (dw_and1 (dp_cmp (o_eq2 hu) (de_cl G_l_draw gd (hr.mono (by decide)) rfl D_l_draw.m D_l_draw.F.kp D_l_draw.b .nil .nil (dl_cons (de_v 0) (dl_cons de_int dl_nil))) de_int (nomark _))))) (dss_one (ds_setO (i := 8) rfl (.inl rfl) (de_cl G_l_draw gd (hr.mono (by decide)) rfl D_l_draw.m D_l_draw.F.kp D_l_draw.b .nil .nil (dl_cons (de_v 0) (dl_cons (de_v 1) dl_nil))) (de_sl (de_v 3) do_no (do_some (de_v 4))))) dss_nil)
    (dss_one (ds_frz 8 (ds_ret (de_v 8)))))))))), ?_⟩
  -- the base
  refine ⟨⟨.lst [], _, rfl⟩, _, rfl, 8, rfl, by decide, by decide, by omega, fun m m0 m8 => ⟨_, rfl, 1 + m, rfl, by omega, by omega, ?_⟩⟩
  refine lcW_inv (W := PenW p) (fun i acc (t' : Nat) => ∃ ls : List Nat, acc = ls.map (fun c => D.str (tx [c])) ∧ ls.length = i ∧ (∀ c ∈ ls, c ∈ abcL) ∧ t' = t + 1 + i) _ _ (i := 0) ?_ ⟨[], rfl, rfl, (fun _ h => absurd h List.not_mem_nil), rfl⟩ ?_ ?_
  · rw [rngD_length]; exact line1000 (by show 0 + (1 + m).toNat ≤ 1000; omega)
  · rintro i x acc (t' : Nat) hx ⟨ls, rfl, hl, hc, rfl⟩
    obtain ⟨hi, rfl⟩ := rngD_at hx
    refine ⟨_, rfl, fun Q' hq => ⟨_, rfl, _, rfl, _, _, rfl, .inr (.inr ⟨abc, rfl, rfl⟩), by rw [signs_len]; decide +kernel, by rw [signs_len]; decide +kernel, by omega, fun y hy => ?_⟩⟩
    obtain ⟨c, rfl, hcm⟩ := signs_mem hy
    exact hq _ _ ⟨ls ++ [c], by rw [List.map_append]; rfl, by rw [List.length_append, hl]; rfl, fun d hd => (List.mem_append.mp hd).elim (hc d) fun h => by rw [List.mem_singleton.mp h]; exact hcm, by omega⟩
  rintro _ (t1 : Nat) ⟨ls, rfl, hl, hc, rfl⟩
  rw [rngD_length, Nat.zero_add] at hl
  rw [rngD_length, Nat.zero_add]
  have hl9 : ls.length ≤ 8 := by omega
  have hl1 : 1 ≤ ls.length := by omega
  refine ⟨_, joinD_ones (by omega), ?_⟩
  -- at, first, cut
  refine ⟨_, rfl, _, rfl, _, len_tx (by omega), ls.length, rfl, by omega, by omega, by omega, fun a a0 a1 => ?_⟩
  refine ⟨_, rfl, 26, rfl, by decide, by decide, by omega, fun f f0 f1 => ⟨_, rfl, 2, rfl, by decide, by decide, by omega, fun cut c0 c1 => ?_⟩⟩
  refine ⟨_, rfl, by decide, _, _, rfl, .inl rfl, by decide, by decide, by omega, fun sx hs => ⟨by decide, ?_⟩⟩
  obtain ⟨s, rfl, hs2⟩ : ∃ s : Int, sx = .int s ∧ s ∈ [(1 : Int), 3, 5, 7, 9, 11, 15, 17, 19, 21, 23, 25] := by
    simp only [List.mem_cons, List.not_mem_nil, or_false] at hs
    rcases hs with rfl | rfl | rfl | rfl | rfl | rfl | rfl | rfl | rfl | rfl | rfl | rfl <;> exact ⟨_, rfl, by decide⟩
  have hsb : 0 ≤ s ∧ s ≤ 25 := by
    simp only [List.mem_cons, List.not_mem_nil, or_false] at hs2
    omega
  obtain ⟨a', rfl⟩ : ∃ a' : Nat, a = (a' : Int) := ⟨a.toNat, by omega⟩
  have ha : a' < ls.length := by omega
  -- the names
  let tail : Nat → List Nat := fun k => (ls.drop (a' + 1)).take (if cut = 0 then 8 else k % 3)
  have lenT : ∀ k, (tail k).length ≤ ls.length - (a' + 1) := fun k => by
    show ((ls.drop (a' + 1)).take _).length ≤ _
    rw [List.length_take, List.length_drop]
    exact Nat.min_le_right _ _
  have okN : ∀ k, nmOk (nameL ls a' f s tail k) := fun k => by
    have h1 := lenT k
    have hL : (nameL ls a' f s tail k).length = a' + (1 + (tail k).length) := by
      unfold nameL
      rw [List.length_append, List.length_append, List.length_take, Nat.min_eq_left (by omega)]
      rfl
    refine ⟨by omega, by omega, fun c hc' => ?_⟩
    unfold nameL at hc'
    rcases List.mem_append.mp hc' with h | h
    · exact abcL_let c (hc c (List.mem_of_mem_take h))
    · rcases List.mem_append.mp h with h | h
      · rw [List.mem_singleton.mp h]
        have := (abc_at (k := (f + s * k) % 26) (by omega) (by omega)).2
        exact abcL_let _ this
      · exact abcL_let c (hc c (List.mem_of_mem_drop (List.mem_of_mem_take h)))
  refine ⟨_, rfl, n, rfl, by omega, by omega, forW_inv (W := PenW p) (fun i ρ (t' : Nat) => t' = t + 1 + (1 + m).toNat + 1 + 1 + 1 + 1 ∧ ∃ b1 b2, ρ = [some (.d (.ob p)), some (.d (.int n)), some (.d (.str abc)), some (.d (.str (tx ls))), some (.d (.int a')), some (.d (.int f)), some (.d (.int cut)), some (.d (.int s)), some (.own (nmD ((List.range i).map (nameL ls a' f s tail)))), b1, b2]) _ (i := 0) ⟨rfl, _, _, rfl⟩ ?_ ?_⟩
  · rintro k x ρ (t' : Nat) hx ⟨rfl, b1, b2, rfl⟩
    obtain ⟨hk, rfl⟩ := rngD_at hx
    refine ⟨_, rfl, fun nx hn => ?_⟩
    have tl : ∃ z, ixD (.lst [.int 8, .int ((0 + (k : Int)) % 3)]) (.int cut) = some (.int z) ∧ z = ((if cut = 0 then 8 else k % 3 : Nat) : Int) := by
      have hcut : cut = 0 ∨ cut = 1 := by omega
      rcases hcut with rfl | rfl
      · exact ⟨8, rfl, rfl⟩
      · exact ⟨(0 + (k : Int)) % 3, rfl, by rw [if_neg (by decide)]; omega⟩
    obtain ⟨z, ez, hz⟩ := tl
    subst hz
    refine ⟨_, rfl, _, rfl, _, rfl, _, rfl, _, sl_from (n := a' + 1) (by omega), _, rfl, _, rfl, (by show 2 ≤ sizeLine; decide), _, rfl, _, ez, _, rfl, _, sl_to (by rw [List.length_drop]; omega), ?_⟩
    have e1 := abc_at (k := (f + s * ((0 + (k : Int)))) % 26) (by omega) (by omega)
    have hk' : (0 + (k : Int)) = (k : Int) := by omega
    refine ⟨_, rfl, _, rfl, _, rfl, _, rfl, _, sl_to (by omega), _, rfl, _, rfl, _, rfl, _, rfl, _, mul_ok (by omega), _, rfl, _, rfl, _, e1.1, _, add_tx (by rw [List.length_take]; show _ + 1 ≤ _; omega), _, rfl, _, add_tx ?_, ?_⟩
    · have := lenT k
      rw [List.length_append, List.length_take]
      show _ + 1 + (tail k).length ≤ _
      omega
    refine ⟨by show (nmD _).length < sizeLine; unfold nmD; rw [List.length_map, List.length_map, List.length_range]; exact Nat.lt_of_le_of_lt (show 0 + k ≤ 1000 by omega) (by decide), hn _ _ ⟨rfl, some (.d (.int (0 + (k : Int)))), some (.d (.str (tx (tail k)))), ?_⟩⟩
    have er : nmD ((List.range (0 + k + 1)).map (nameL ls a' f s tail)) = nmD ((List.range (0 + k)).map (nameL ls a' f s tail)) ++ [.str (tx (ls.take a' ++ [abcL.getD ((f + s * (0 + (k : Int))) % 26).toNat 0] ++ tail k))] := by
      unfold nmD
      rw [List.range_succ, List.map_append, List.map_append, Nat.zero_add, hk', List.append_assoc]
      rfl
    rw [er]
    rfl
  rintro ρ (t' : Nat) ⟨rfl, b1, b2, rfl⟩
  rw [rngD_length, Nat.zero_add, Int.toNat_natCast]
  -- one cut
  have hnd := names_nodup (f := f) (tail := tail) (n := n) ha hs2 n13
  have all : Nms ((List.range n).map (nameL ls a' f s tail)) := ⟨hnd, fun y hy => by
    obtain ⟨k, _, rfl⟩ := List.mem_map.mp hy
    exact okN k⟩
  dsimp only
  refine cutI (W := PenW p) (fun ρ' (t' : Nat) => ∃ ys, ys.length = n ∧ Nms ys ∧ t' ≤ t + 20 ∧ ρ' = [some (.d (.ob p)), some (.d (.int n)), some (.d (.str abc)), some (.d (.str (tx ls))), some (.d (.int a')), some (.d (.int f)), some (.d (.int cut)), some (.d (.int s)), some (.own (nmD ys)), b1, b2]) (fun nx' q' => ?_) ?_
  · have same := q' _ (t + 1 + (1 + m).toNat + 1 + 1 + 1 + 1) ⟨_, by rw [List.length_map, List.length_range], all, by omega, rfl⟩
    refine ⟨_, rfl, _, rfl, _, rfl, ite_i (fun h => ?_) fun _ => ite_i (fun h => absurd h (by decide)) fun _ => same⟩
    have ha0 : 0 < a' := by simpa using h
    refine ⟨_, rfl, 3, rfl, by decide, by decide, by omega, fun k k0 k3 => ⟨_, eqi, _, rfl, ite_i (fun _ => ?_) fun _ => q' _ _ ⟨_, by rw [List.length_map, List.length_range], all, by show t + 1 + (1 + m).toNat + 1 + 1 + 1 + 1 + 1 ≤ t + 20; omega, rfl⟩⟩⟩
    refine ⟨_, rfl, _, rfl, _, rfl, _, rfl, _, sl_to (by omega), _, rfl, _, rfl, n, rfl, by omega, by omega, by omega, fun j j0 j1 => ?_⟩
    have hlen : (nmD ((List.range n).map (nameL ls a' f s tail))).length = n := by unfold nmD; rw [List.length_map, List.length_map, List.length_range]
    refine ⟨j, j.toNat, rfl, ?_, q' _ _ ⟨((List.range n).map (nameL ls a' f s tail)).set j.toNat (ls.take a'), by rw [List.length_set, List.length_map, List.length_range], ⟨nodup_set _ hnd fun m' => ?_, fun y hy => ?_⟩, by show t + 1 + (1 + m).toNat + 1 + 1 + 1 + 1 + 1 + 1 ≤ t + 20; omega, ?_⟩⟩
    · unfold ixN
      rw [if_pos j0, if_pos (by rw [hlen]; exact j1)]
    · obtain ⟨k', _, e⟩ := List.mem_map.mp m'
      have e1 := nameL_at (f := f) (s := s) (tail := tail) (k := k') ha
      rw [e, List.getElem?_eq_none (by rw [List.length_take]; omega)] at e1
      cases e1
    · rcases List.mem_or_eq_of_mem_set hy with h | h
      · exact all.ok y h
      · rw [h]
        exact ⟨by rw [List.length_take]; omega, by rw [List.length_take]; omega, fun c hc' => abcL_let c (hc c (List.mem_of_mem_take hc'))⟩
    · unfold nmD
      rw [List.map_set]
      rfl
  rintro _ (t2 : Nat) ⟨ys, hy, hN, h2, rfl⟩
  exact .inl ⟨_, rfl, _, rfl, q ys t2 hy hN h2⟩


end
end Law

namespace Law
open PySem PySem.Spec PyProof.Rows L2 Tk
section
variable {P : Program} {w : World} {K : PySem.W.Frag} {mg : Str → Option Value} {base : Heap}
/-! ## scenes -/
def tabD (x : D) : Prop := ∃ (i : Int) (n : List Nat), x = .tup [.int i, .str (tx n)] ∧ 0 ≤ i ∧ i < 4 ∧ nmOk n
abbrev kTb : Key := .inr ("tables" : Str)
abbrev kCo : Key := .inr ("columns" : Str)
abbrev kNa : Key := .inr ("names" : Str)
def sceneD (tabs : List D) (cols nms : List (List Nat)) : D := .dic [(kTb, .lst tabs), (kCo, .lst (nmD cols)), (kNa, .lst (nmD nms))]
def sceneS (p : Pn) (ds : List D) (t : Nat) (Q : D → Nat → Prop) : Prop := ds = [.ob p] ∧ t + 60 < 2 ^ 60 ∧
  ∀ tabs cols nms t', tabs.length = 4 → (∀ x ∈ tabs, tabD x) → cols.length = 9 → Nms cols → nms.length = 4 → Nms nms → t' ≤ t + 60 → Q (sceneD tabs cols nms) t'
def words9 : List (List Nat) := ["read", "at", "is", "many", "sum", "first", "keep", "by", "none"].map fun x => (Str.ofString x).cps.toList
instance nmOk_dec (y : List Nat) : Decidable (nmOk y) := by unfold nmOk; infer_instance
theorem words9_ok : Nms words9 := ⟨by decide +kernel, by decide +kernel⟩
theorem ok_l_scene {f_l_scene : Addr} {fd_l_scene : FuncData} (D_l_scene : Df K mg "_law_scene" st_l_scene ["_law_pen_here"] f_l_scene fd_l_scene)
    {f_l_names : Addr} {fd_l_names : FuncData} (D_l_names : Df K mg "_law_names" st_l_names ["_law_pen_here", "_law_many"] f_l_names fd_l_names)
    {f_l_draw : Addr} {fd_l_draw : FuncData} (D_l_draw : Df K mg "_law_draw" st_l_draw ["_law_pen_here", "_law_many"] f_l_draw fd_l_draw)
    {f_l_pick : Addr} {fd_l_pick : FuncData} (D_l_pick : Df K mg "_law_pick" st_l_pick ["_law_pen_here", "_law_some"] f_l_pick fd_l_pick) (T : Tb mg) (p : Pn) :
    FnG P w K mg base CX0 4 f_l_scene fd_l_scene ["_law_pen_here"] (spOf (PenW p) (sceneS p)) := by
  have G_l_draw := ok_l_draw (P := P) (w := w) (base := base) D_l_draw T p
  have G_l_pick := ok_l_pick (P := P) (w := w) (base := base) D_l_pick T p D_l_draw
  have G_l_names := ok_l_names (P := P) (w := w) (base := base) D_l_names D_l_draw D_l_pick T p
  refine okD D_l_scene.F sc_l_scene (by rintro _ _ _ ⟨rfl, _⟩; rfl) ?_
  rintro cdv A outer s H E _ (t : Nat) Q gd hr ⟨rfl, ht, q⟩
  have hu := hr.units
  refine ⟨_, (dss_cons (ds_par (i := 1) (j := 2) rfl sc_l_scene.nd rfl rfl (by decide) rfl rfl (de_cl G_l_names gd (hr.mono (by decide)) rfl D_l_names.m D_l_names.F.kp D_l_names.b .nil .nil (dl_cons (de_v 0) (dl_cons de_int dl_nil))) (de_cl G_l_names gd (hr.mono (by decide)) rfl D_l_names.m D_l_names.F.kp D_l_names.b .nil .nil (dl_cons (de_v 0) (dl_cons de_int dl_nil))) (by rfl))
    (dss_cons (ds_set (i := 3) sc_l_scene.nd rfl (.inl rfl) (de_cl G_l_draw gd (hr.mono (by decide)) rfl D_l_draw.m D_l_draw.F.kp D_l_draw.b .nil .nil (dl_cons (de_v 0) (dl_cons de_int dl_nil))))
    (dss_cons (ds_if (dp_cmp (o_eq2 hu) (de_v 3) de_int (nomark _)) (dss_one (ds_set (i := 2) sc_l_scene.nd rfl (.inl rfl) (de_lst (dl_cons de_str (dl_cons de_str (dl_cons de_str (dl_cons de_str (dl_cons de_str (dl_cons de_str (dl_cons de_str (dl_cons de_str (dl_cons de_str dl_nil)))))))))))) dss_nil)
    (dss_cons (ds_if (dp_cmp (o_eq2 hu) (de_v 3) de_int (nomark _)) (dss_one (ds_set (i := 1) sc_l_scene.nd rfl (.inl rfl) (de_sl (de_v 2) do_no (do_some de_int)))) dss_nil)
    (dss_cons (ds_parDF (i := 4) (j := 5) rfl sc_l_scene.nd rfl rfl (by decide) rfl rfl (de_cl G_l_draw gd (hr.mono (by decide)) rfl D_l_draw.m D_l_draw.F.kp D_l_draw.b .nil .nil (dl_cons (de_v 0) (dl_cons de_int dl_nil))) (df_lst dl_nil) (by rfl))
    (dss_cons (ds_for PassesOwn.never rfl (di_rng1 rfl T.range de_int) (gf_name 6) (pg_name (i := 6) sc_l_scene.nd rfl (.inl rfl))
      (dss_one (ds_app (i := 5) rfl (.inl rfl) (de_tup (dl_cons (de_op o_mod (de_op o_add (de_v 4) (de_op o_mul2 (de_v 6) (de_cl G_l_pick gd (hr.mono (by decide)) rfl D_l_pick.m D_l_pick.F.kp D_l_pick.b .nil .nil (dl_cons (de_v 0) (dl_cons (de_lst (dl_cons de_int (dl_cons de_int (dl_cons de_int dl_nil)))) dl_nil))))) de_int) (dl_cons (de_ix (de_v 1) (de_v 6)) dl_nil))))))
    (dss_cons (ds_if (dp_cmp (o_eq2 hu) (de_cl G_l_draw gd (hr.mono (by decide)) rfl D_l_draw.m D_l_draw.F.kp D_l_draw.b .nil .nil (dl_cons (de_v 0) (dl_cons de_int dl_nil))) de_int (nomark _)) (dss_one (ds_setO (i := 5) rfl (.inl rfl) de_int (de_tup (dl_cons (de_op o_mod (de_op o_add (de_ix (de_ix (db_o 5) de_int) de_int) de_int) de_int) (dl_cons (de_ix (de_ix (db_o 5) de_int) de_int) dl_nil))))) dss_nil)
    (dss_one (ds_frz 5 (ds_ret (de_disp (dps_cons (de_v 5) (dps_cons (de_v 2) (dps_cons (de_v 1) dps_nil))) (by decide) rfl rfl (fun z => by cases z) (by decide)))))))))))), ?_⟩
  refine ⟨_, rfl, 4, rfl, by decide, by decide, by omega, fun nm0 (t1 : Nat) hn0 Nn0 h1 => ⟨_, rfl, 9, rfl, by decide, by decide, by omega, fun co0 (t2 : Nat) hc0 Nc0 h2 => ?_⟩⟩
  refine ⟨_, rfl, 6, rfl, by decide, by decide, by omega, fun way w0 w6 => ?_⟩
  dsimp only
  refine cutI (W := PenW p) (fun ρ' (t' : Nat) => ∃ co, co.length = 9 ∧ Nms co ∧ t' = t2 + 1 ∧ ρ' = [some (.d (.ob p)), some (.d (.lst (nmD nm0))), some (.d (.lst (nmD co))), some (.d (.int way)), none, none, none]) (fun nx' q' => ?_) ?_
  · refine ⟨_, rfl, _, eqi, _, rfl, ite_i (fun _ => ⟨by decide, q' _ _ ⟨words9, rfl, words9_ok, rfl, rfl⟩⟩) fun _ => q' _ _ ⟨co0, hc0, Nc0, rfl, rfl⟩⟩
  rintro _ (t3 : Nat) ⟨co, hc, Nc, rfl, rfl⟩
  refine cutI (W := PenW p) (fun ρ' (t' : Nat) => ∃ nm, nm.length = 4 ∧ Nms nm ∧ t' = t2 + 1 ∧ ρ' = [some (.d (.ob p)), some (.d (.lst (nmD nm))), some (.d (.lst (nmD co))), some (.d (.int way)), none, none, none]) (fun nx' q' => ?_) ?_
  · refine ⟨_, rfl, _, eqi, _, rfl, ite_i (fun _ => ⟨_, rfl, _, rfl, _, nmD_take co 4 (by omega), q' _ _ ⟨co.take 4, by rw [List.length_take]; omega, ⟨Nc.nd.sublist (List.take_sublist _ _), fun y hy => Nc.ok y (List.mem_of_mem_take hy)⟩, rfl, rfl⟩⟩) fun _ => q' _ _ ⟨nm0, hn0, Nn0, rfl, rfl⟩⟩
  rintro _ (t3 : Nat) ⟨nm, hn, Nn, rfl, rfl⟩
  refine ⟨_, rfl, 4, rfl, by decide, by decide, by omega, fun turn u0 u4 => ⟨by decide, ?_⟩⟩
  refine ⟨4, rfl, by decide, by decide, forW_inv (W := PenW p) (fun i ρ (t' : Nat) => t' = t2 + 2 + i ∧ ∃ tabs b, tabs.length = i ∧ (∀ x ∈ tabs, tabD x) ∧ ρ = [some (.d (.ob p)), some (.d (.lst (nmD nm))), some (.d (.lst (nmD co))), some (.d (.int way)), some (.d (.int turn)), some (.own tabs), b]) _ (i := 0) ⟨rfl, [], _, rfl, (fun _ h => absurd h List.not_mem_nil), rfl⟩ ?_ ?_⟩
  · rintro k x ρ (t' : Nat) hx ⟨rfl, tabs, b, hl, ok, rfl⟩
    obtain ⟨hk, rfl⟩ := rngD_at hx
    have hk4 : k < 4 := hk
    refine ⟨_, rfl, fun nx hnx => ?_⟩
    refine ⟨_, rfl, _, rfl, _, rfl, _, rfl, by decide, _, _, rfl, .inl rfl, by decide, by decide, by omega, fun y hy => ?_⟩
    obtain ⟨z, rfl, hz⟩ : ∃ z : Int, y = .int z ∧ 0 ≤ z ∧ z ≤ 3 := by
      simp only [List.mem_cons, List.not_mem_nil, or_false] at hy
      rcases hy with rfl | rfl | rfl <;> exact ⟨_, rfl, by decide, by decide⟩
    have hk' : (0 + (k : Int)) = (k : Int) := by omega
    refine ⟨_, mul_ok (by omega), _, rfl, _, rfl, _, rfl, _, rfl, _, by rw [hk']; exact nmD_at (by omega), (by show 2 ≤ sizeLine; decide), (by rw [hl]; exact Nat.lt_of_le_of_lt (show 0 + k ≤ 1000 by omega) (by decide)), hnx _ _ ⟨by omega, _, some (.d (.int (0 + (k : Int)))), ?_, ?_, rfl⟩⟩
    · rw [List.length_append, hl]; rfl
    · intro x hx
      rcases List.mem_append.mp hx with h | h
      · exact ok x h
      · rw [List.mem_singleton.mp h]
        exact ⟨_, _, rfl, Int.emod_nonneg _ (by decide), Int.emod_lt_of_pos _ (by decide), Nn.ok _ (List.getElem_mem (by omega))⟩
  rintro ρ (t' : Nat) ⟨rfl, tabs, b, hl, ok, rfl⟩
  rw [rngD_length] at hl ⊢
  have hl4 : tabs.length = 4 := hl
  dsimp only
  refine cutI (W := PenW p) (fun ρ' (t' : Nat) => ∃ tabs, tabs.length = 4 ∧ (∀ x ∈ tabs, tabD x) ∧ t' ≤ t2 + 7 ∧ ρ' = [some (.d (.ob p)), some (.d (.lst (nmD nm))), some (.d (.lst (nmD co))), some (.d (.int way)), some (.d (.int turn)), some (.own tabs), b]) (fun nx' q' => ?_) ?_
  · refine ⟨_, rfl, 2, rfl, by decide, by decide, by show t2 + 2 + (0 + 4) < 2 ^ 60; omega, fun k k0 k2 => ⟨_, eqi, _, rfl, ite_i (fun _ => ?_) fun _ => q' _ _ ⟨tabs, hl4, ok, by show t2 + 2 + (0 + 4) + 1 ≤ _; omega, rfl⟩⟩⟩
    match tabs, hl4, ok with
    | [x0, x1, x2, x3], _, ok =>
      obtain ⟨i, n, rfl, i0, i4, nn⟩ := ok _ List.mem_cons_self
      refine ⟨_, rfl, .inl ⟨_, rfl, _, rfl, _, rfl, _, rfl, _, rfl, .inl ⟨_, rfl, _, rfl, _, rfl, (by show 2 ≤ sizeLine; decide), 1, 1, rfl, rfl, q' _ _ ⟨_, rfl, ?_, by show t2 + 2 + (0 + 4) + 1 ≤ _; omega, rfl⟩⟩⟩⟩
      intro x hx
      have hx' : x = .tup [.int i, .str (tx n)] ∨ x = .tup [.int ((i + 1) % 4), .str (tx n)] ∨ x = x2 ∨ x = x3 := by simpa using hx
      rcases hx' with rfl | rfl | rfl | rfl
      · exact ⟨_, _, rfl, i0, i4, nn⟩
      · exact ⟨_, _, rfl, Int.emod_nonneg _ (by decide), Int.emod_lt_of_pos _ (by decide), nn⟩
      · exact ok _ (by simp)
      · exact ok _ (by simp)
  rintro _ (t4 : Nat) ⟨tabs, hl, ok, h4, rfl⟩
  exact .inl ⟨_, rfl, _, rfl, _, rfl, _, rfl, q tabs co nm t4 hl ok hc Nc hn Nn (by omega)⟩


end
end Law

namespace Law
open PySem PySem.Spec PyProof.Rows L2 Tk
section
variable {P : Program} {w : World} {K : PySem.W.Frag} {mg : Str → Option Value} {base : Heap}
/-! ## columns -/
theorem nodup_ne {α : Type} {xs : List α} (h : xs.Nodup) {i j : Nat} (hi : i < xs.length) (hj : j < xs.length) (e : xs[i] = xs[j]) : i = j := by
  have p := List.pairwise_iff_getElem.mp h
  rcases Nat.lt_trichotomy i j with l | l | l
  · exact absurd e (p i j hi hj l)
  · exact l
  · exact absurd e.symm (p j i hj hi l)
theorem nodup_ins {α : Type} {xs : List α} {y : α} (n : Nat) (h : xs.Nodup) (hy : y ∉ xs) : (xs.take n ++ [y] ++ xs.drop n).Nodup := by
  have e : xs.take n ++ [y] ++ xs.drop n = xs.take n ++ y :: xs.drop n := by rw [List.append_assoc]; rfl
  rw [e]
  refine (List.perm_middle.nodup_iff).mpr ?_
  rw [List.take_append_drop]
  exact List.nodup_cons.mpr ⟨hy, h⟩
def columnsS (p : Pn) (ds : List D) (t : Nat) (Q : D → Nat → Prop) : Prop := ∃ (tabs : List D) (cols nms : List (List Nat)) (n : Nat), ds = [.ob p, sceneD tabs cols nms, .int (n : Int)] ∧ cols.length = 9 ∧ Nms cols ∧ 1 ≤ n ∧ n ≤ 8 ∧ t + 12 < 2 ^ 60 ∧
  ∀ (cs : List (List Nat)) t', 1 ≤ cs.length → cs.length ≤ n → Nms cs → t' ≤ t + 12 → Q (.tup (nmD cs)) t'
theorem ok_l_columns {f_l_columns : Addr} {fd_l_columns : FuncData} (D_l_columns : Df K mg "_law_columns" st_l_columns ["_law_pen_here", "_law_scene_here", "_law_most"] f_l_columns fd_l_columns)
    {f_l_draw : Addr} {fd_l_draw : FuncData} (D_l_draw : Df K mg "_law_draw" st_l_draw ["_law_pen_here", "_law_many"] f_l_draw fd_l_draw) (T : Tb mg) (p : Pn) :
    FnG P w K mg base CX0 2 f_l_columns fd_l_columns ["_law_pen_here", "_law_scene_here", "_law_most"] (spOf (PenW p) (columnsS p)) := by
  have G_l_draw := ok_l_draw (P := P) (w := w) (base := base) D_l_draw T p
  refine okD D_l_columns.F sc_l_columns (by rintro _ _ _ ⟨_, _, _, _, rfl, _⟩; rfl) ?_
  rintro cdv A outer s H E _ (t : Nat) Q gd hr ⟨tabs, cols, nms, n, rfl, hc, Nc, n1, n8, ht, q⟩
  have hu := hr.units
  refine ⟨_, (dss_cons (ds_parFD (i := 3) (j := 4) rfl sc_l_columns.nd rfl rfl (by decide) rfl rfl (df_lst dl_nil) (de_cl G_l_draw gd (hr.mono (by decide)) rfl D_l_draw.m D_l_draw.F.kp D_l_draw.b .nil .nil (dl_cons (de_v 0) (dl_cons de_int dl_nil))) (by rfl))
    (dss_cons (ds_for PassesOwn.never rfl (di_rng1 rfl T.range (de_op o_add de_int (de_cl G_l_draw gd (hr.mono (by decide)) rfl D_l_draw.m D_l_draw.F.kp D_l_draw.b .nil .nil (dl_cons (de_v 0) (dl_cons (de_v 2) dl_nil))))) (gf_name 5) (pg_name (i := 5) sc_l_columns.nd rfl (.inl rfl))
      (dss_one (ds_ins (i := 3) rfl (.inl rfl) (de_cl G_l_draw gd (hr.mono (by decide)) rfl D_l_draw.m D_l_draw.F.kp D_l_draw.b .nil .nil (dl_cons (de_v 0) (dl_cons (de_op o_add (de_f1 f_len rfl T.len (by decide +kernel) (db_o 3)) de_int) dl_nil))) (de_ix (de_ixK hu (de_v 1) de_str) (de_op o_mod (de_op o_add (de_v 4) (de_op o_mul2 de_int (de_v 5))) de_int)))))
    (dss_one (ds_ret (de_f1T f_tuple rfl T.tuple (by decide +kernel) (db_o 3)))))), ?_⟩
  refine ⟨by decide, _, rfl, 9, rfl, by decide, by decide, by omega, fun turn u0 u9 => ?_⟩
  refine ⟨_, rfl, _, rfl, n, rfl, by omega, by omega, by omega, fun m m0 m1 => ⟨_, rfl, 1 + m, rfl, by omega, by omega, ?_⟩⟩
  refine forW_inv (W := PenW p) (fun i ρ (t' : Nat) => t' = t + 2 + i ∧ ∃ cs b, cs.length = i ∧ cs.Nodup ∧ (∀ y ∈ cs, ∃ j, j < i ∧ ∃ h : ((turn + 2 * (j : Int)) % 9).toNat < cols.length, y = cols[((turn + 2 * (j : Int)) % 9).toNat]) ∧ ρ = [some (.d (.ob p)), some (.d (sceneD tabs cols nms)), some (.d (.int n)), some (.own (nmD cs)), some (.d (.int turn)), b]) _ (i := 0) ⟨rfl, [], _, rfl, .nil, (fun _ h => absurd h List.not_mem_nil), rfl⟩ ?_ ?_
  · rintro k x ρ (t' : Nat) hx ⟨rfl, cs, b, hl, nd, ok, rfl⟩
    obtain ⟨hk, rfl⟩ := rngD_at hx
    have hk8 : k < 9 := by omega
    have hk' : (0 + (k : Int)) = (k : Int) := by omega
    have hlen : (nmD cs).length = k := by unfold nmD; rw [List.length_map, hl, Nat.zero_add]
    refine ⟨_, rfl, fun nx hnx => ?_⟩
    refine ⟨_, rfl, _, rfl, .inl ⟨_, rfl, _, rfl, _, rfl, k + 1, by rw [hlen]; rfl, by omega, by omega, by omega, fun g g0 g1 => ?_⟩⟩
    have hi : ((turn + 2 * (k : Int)) % 9).toNat < cols.length := by omega
    have e1 := nmD_at hi
    rw [Int.toNat_of_nonneg (by omega)] at e1
    refine ⟨_, rfl, _, rfl, _, rfl, _, rfl, _, mul_ok (by omega), _, rfl, _, rfl, _, by rw [hk']; exact e1, g, rfl, by rw [hlen]; exact Nat.lt_of_le_of_lt (show k ≤ 1000 by omega) (by decide), g0, by omega, hnx _ _ ⟨by omega, cs.take g.toNat ++ [cols[((turn + 2 * (k : Int)) % 9).toNat]] ++ cs.drop g.toNat, some (.d (.int (0 + (k : Int)))), ?_, nodup_ins _ nd fun m' => ?_, fun y hy => ?_, ?_⟩⟩
    · rw [List.length_append, List.length_append, List.length_take, List.length_drop, List.length_singleton]; omega
    · obtain ⟨j, hj, hj2, e⟩ := ok _ m'
      have := nodup_ne Nc.nd hi hj2 e
      omega
    · have : y = cols[((turn + 2 * (k : Int)) % 9).toNat] ∨ y ∈ cs := by
        rcases List.mem_append.mp hy with h | h
        · rcases List.mem_append.mp h with h | h
          · exact .inr (List.mem_of_mem_take h)
          · exact .inl (List.mem_singleton.mp h)
        · exact .inr (List.mem_of_mem_drop h)
      rcases this with h | h
      · exact ⟨k, by omega, hi, h⟩
      · obtain ⟨j, hj, h2⟩ := ok y h
        exact ⟨j, by omega, h2⟩
    · unfold nmD
      rw [List.map_append, List.map_append, List.map_take, List.map_drop]
      rfl
  rintro ρ (t' : Nat) ⟨rfl, cs, b, hl, nd, ok, rfl⟩
  rw [rngD_length] at hl ⊢
  exact .inl ⟨_, rfl, _, rfl, q cs _ (by omega) (by omega) ⟨nd, fun y hy => by obtain ⟨j, _, h, rfl⟩ := ok y hy; exact Nc.ok _ (List.getElem_mem h)⟩ (by omega)⟩


end
end Law

namespace Law
open PySem PySem.Spec PyProof.Rows L2 Tk
section
variable {P : Program} {w : World} {K : PySem.W.Frag} {mg : Str → Option Value} {base : Heap}
/-! ## rows -/
def rowsS (p : Pn) (ds : List D) (t : Nat) (Q : D → Nat → Prop) : Prop := ∃ wide many : Nat, ds = [.ob p, .int (wide : Int), .int (many : Int)] ∧ 1 ≤ wide ∧ wide ≤ 8 ∧ many ≤ 100 ∧ t + many * 100 < 2 ^ 60 ∧
  ∀ (rows : List (List D)) t', rows.length = many → rowsOk wide rows → t' ≤ t + many * 100 → Q (.lst (rows.map D.tup)) t'
theorem ok_l_rows {f_l_rows : Addr} {fd_l_rows : FuncData} (D_l_rows : Df K mg "_law_rows" st_l_rows ["_law_pen_here", "_law_wide", "_law_many"] f_l_rows fd_l_rows)
    {f_l_cell : Addr} {fd_l_cell : FuncData} (D_l_cell : Df K mg "_law_cell" st_l_cell ["_law_pen_here"] f_l_cell fd_l_cell)
    {f_l_draw : Addr} {fd_l_draw : FuncData} (D_l_draw : Df K mg "_law_draw" st_l_draw ["_law_pen_here", "_law_many"] f_l_draw fd_l_draw)
    {f_l_pick : Addr} {fd_l_pick : FuncData} (D_l_pick : Df K mg "_law_pick" st_l_pick ["_law_pen_here", "_law_some"] f_l_pick fd_l_pick) (T : Tb mg) (p : Pn) :
    FnG P w K mg base CX0 4 f_l_rows fd_l_rows ["_law_pen_here", "_law_wide", "_law_many"] (spOf (PenW p) (rowsS p)) := by
  have G_l_draw := ok_l_draw (P := P) (w := w) (base := base) D_l_draw T p
  have G_l_pick := ok_l_pick (P := P) (w := w) (base := base) D_l_pick T p D_l_draw
  have G_l_cell := ok_l_cell (P := P) (w := w) (base := base) D_l_cell T p D_l_draw D_l_pick
  refine okD D_l_rows.F sc_l_rows (by rintro _ _ _ ⟨_, _, rfl, _⟩; rfl) ?_
  rintro cdv A outer s H E _ (t : Nat) Q gd hr ⟨wd, n, rfl, w1, w8, n1, ht, q⟩
  have hu := hr.units
  refine ⟨_, (dss_cons (ds_own (i := 3) sc_l_rows.nd rfl (.inl rfl) (df_lst dl_nil))
    (dss_cons (ds_for PassesOwn.never rfl (di_rng1 rfl T.range (de_v 2)) (gf_name 4) (pg_name (i := 4) sc_l_rows.nd rfl (.inl rfl))
      (dss_cons (ds_set (i := 5) sc_l_rows.nd rfl (.inl rfl) (de_f1T f_tuple rfl T.tuple (by decide +kernel) (de_lc (own := [("_law_j", 8)]) rfl sc_l_rows.nd (di_rng1 rfl T.range (de_v 1)) (blkOk_by (own := [("_law_j", 8)]) (N := ["_law_pen_here", "_law_wide", "_law_many", "_law_rows_here", "_law_k", "_law_row", "_law_elder", "_law_at", "_law_j"]) (sc := defScope st_l_rows) (by decide +kernel)) (gf_name 8) (fun _ _ _ _ _ => (pg_name (i := 8) sc_l_rows.nd rfl (.inl rfl))) ts_nil (fun _ _ _ _ _ => (de_cl G_l_cell gd (hr.mono (by decide)) rfl D_l_cell.m D_l_cell.F.kp D_l_cell.b .nil .nil (dl_cons (de_v 0) dl_nil))))))
      (dss_cons (ds_if (DW.dp (dw_and (dp_cmp (o_ne hu) (db_o 3) (de_lst dl_nil) (nomark _)) (dw_and1 (dp_cmp (o_eq2 hu) (de_cl G_l_draw gd (hr.mono (by decide)) rfl D_l_draw.m D_l_draw.F.kp D_l_draw.b .nil .nil (dl_cons (de_v 0) (dl_cons de_int dl_nil))) de_int (nomark _))))) (dss_cons (ds_set (i := 6) sc_l_rows.nd rfl (.inl rfl) (de_clB G_l_pick gd (hr.mono (by decide)) rfl D_l_pick.m D_l_pick.F.kp D_l_pick.b .nil .nil (dlb_cons (de_v 0) (dlb_cons (db_o 3) dlb_nil))))
        (dss_cons (ds_set (i := 7) sc_l_rows.nd rfl (.inl rfl) (de_cl G_l_draw gd (hr.mono (by decide)) rfl D_l_draw.m D_l_draw.F.kp D_l_draw.b .nil .nil (dl_cons (de_v 0) (dl_cons (de_op o_add (de_v 1) de_int) dl_nil))))
        (dss_one (ds_set (i := 5) sc_l_rows.nd rfl (.inl rfl) (de_op o_add (de_op o_add (de_sl (de_v 6) do_no (do_some (de_v 7))) (de_sl (de_v 5) (do_some (de_v 7)) (do_some (de_op o_add (de_v 7) de_int)))) (de_sl (de_v 6) (do_some (de_op o_add (de_v 7) de_int)) do_no)))))) dss_nil)
      (dss_one (ds_app (i := 3) rfl (.inl rfl) (de_v 5))))))
    (dss_one (ds_frz 3 (ds_ret (de_v 3)))))), ?_⟩
  refine ⟨by decide, _, rfl, n, rfl, by omega, by omega, forW_inv (W := PenW p) (fun i ρ (t' : Nat) => t' ≤ t + i * 100 ∧ ∃ (rows : List (List D)) (b4 b5 b6 b7 : Option Sl), rows.length = i ∧ rowsOk wd rows ∧
    ρ = [some (.d (.ob p)), some (.d (.int (wd : Int))), some (.d (.int (n : Int))), some (.own (rows.map D.tup)), b4, b5, b6, b7, none]) _ (i := 0) ⟨by omega, [], _, _, _, _, rfl, (fun _ h => absurd h List.not_mem_nil), rfl⟩ ?_ ?_⟩
  · rintro k x ρ (t' : Nat) hx ⟨h1, rows, b4, b5, b6, b7, hl, ok, rfl⟩
    obtain ⟨hk, rfl⟩ := rngD_at hx
    have hkn : k < n := by omega
    have hb : k * 100 + 100 ≤ n * 100 := by omega
    refine ⟨_, rfl, fun nx hn => ?_⟩
    -- a new row
    refine ⟨_, rfl, wd, rfl, by omega, by omega, lcW_inv (W := PenW p) (fun j acc (t'' : Nat) => acc.length = j ∧ (∀ x ∈ acc, cellD x = true) ∧ t'' ≤ t' + 12 * j) _ _ (i := 0) ?_ ⟨rfl, (fun _ h => absurd h List.not_mem_nil), by omega⟩ ?_ ?_⟩
    · rw [rngD_length]; exact line1000 (by show 0 + ((wd : Int)).toNat ≤ 1000; omega)
    · rintro j x acc (t'' : Nat) hx2 ⟨hl2, ok2, h2⟩
      obtain ⟨hj, rfl⟩ := rngD_at hx2
      refine ⟨_, rfl, fun Q' hq => ⟨_, rfl, rfl, by omega, fun d t3 hd h3 => hq _ _ ⟨by simp [hl2], fun y hy => ?_, by omega⟩⟩⟩
      rcases List.mem_append.mp hy with hy | hy
      · exact ok2 y hy
      · rw [List.mem_singleton.mp hy]; exact hd
    rintro r0 (t2 : Nat) ⟨hl0, ok0, h2⟩
    rw [rngD_length, Nat.zero_add] at hl0 h2
    have hr0 : r0.length = wd := by omega
    refine ⟨_, rfl, ?_⟩
    dsimp only
    refine cutI (W := PenW p) (fun ρ' (t3 : Nat) => t3 ≤ t2 + 3 ∧ ∃ (r : List D) (b6 b7 : Option Sl), r.length = wd ∧ (∀ x ∈ r, cellD x = true) ∧
      ρ' = [some (.d (.ob p)), some (.d (.int (wd : Int))), some (.d (.int (n : Int))), some (.own (rows.map D.tup)), some (.d (.int (0 + (k : Int)))), some (.d (.tup r)), b6, b7, none]) (fun nx' q' => ?_) ?_
    · have same : ∀ t3 : Nat, t3 ≤ t2 + 3 → nx' _ t3 := fun t3 h3 => q' _ t3 ⟨h3, r0, b6, b7, hr0, ok0, rfl⟩
      have hnn := ne_nil (xs := rows.map D.tup) (rows_shp ok (by omega) (by omega))
      refine .inl ⟨_, rfl, by decide, _, hnn, _, rfl, ite_i (fun hne => ?_) fun _ => ite_i (fun h => absurd h (by decide)) fun _ => same _ (by omega)⟩
      refine ⟨_, rfl, 3, rfl, by decide, by decide, by omega, fun d d0 d3 => ⟨_, eqi, _, rfl, ite_i (fun _ => ?_) fun _ => same _ (by show t2 + 1 ≤ _; omega)⟩⟩
      have hpos : 0 < (rows.map D.tup).length := by
        cases rows with
        | nil => cases hne
        | cons _ _ => exact Nat.zero_lt_succ _
      rw [List.length_map] at hpos
      refine ⟨_, rfl, .inl ⟨_, rfl, _, rows.map D.tup, rfl, .inl rfl, by rw [List.length_map]; exact hpos, by rw [List.length_map]; omega, by show t2 + 1 < 2 ^ 60; omega, fun y hy => ?_⟩⟩
      obtain ⟨e, he, rfl⟩ := List.mem_map.mp hy
      obtain ⟨el, eo⟩ := ok e he
      refine ⟨cells_noL eo, ?_⟩
      refine ⟨_, rfl, _, rfl, _, rfl, wd + 1, rfl, by omega, by omega, by show t2 + 1 + 1 < 2 ^ 60; omega, fun a a0 a1 => ?_⟩
      obtain ⟨a', rfl⟩ : ∃ a' : Nat, a = (a' : Int) := ⟨a.toNat, by omega⟩
      have ea : ((a' : Int) + 1) = ((a' + 1 : Nat) : Int) := rfl
      have e1 : slD (.tup r0) (some (a' : Int)) (some ((a' : Int) + 1)) = some (.tup ((r0.drop a').take 1)) := sl_tup_one r0 a'
      refine ⟨_, rfl, _, rfl, _, rfl, _, sl_tup_to e a', _, rfl, _, rfl, _, rfl, _, rfl, _, rfl, _, rfl, _, e1, _, add_tup (by rw [List.length_take, List.length_take, List.length_drop]; omega), _, rfl, _, rfl, _, rfl, _, rfl, _, by rw [ea]; exact sl_tup_from e (a' + 1), _, add_tup (by rw [List.length_append, List.length_take, List.length_take, List.length_drop, List.length_drop]; omega), q' _ _ ⟨by show t2 + 1 + 1 + 1 ≤ _; omega, _, _, _, ?_, fun y hy => ?_, rfl⟩⟩
      · rw [List.length_append, List.length_append, List.length_take, List.length_take, List.length_drop, List.length_drop]; omega
      · rcases List.mem_append.mp hy with h | h
        · rcases List.mem_append.mp h with h | h
          · exact eo y (List.mem_of_mem_take h)
          · exact ok0 y (List.mem_of_mem_drop (List.mem_of_mem_take h))
        · exact eo y (List.mem_of_mem_drop h)
    rintro _ (t3 : Nat) ⟨h3, r, b6, b7, hr, okr, rfl⟩
    refine ⟨_, rfl, _, rfl, by rw [List.length_map]; exact Nat.lt_of_le_of_lt (show rows.length ≤ 1000 by omega) (by decide), hn _ _ ⟨by omega, rows ++ [r], some (.d (.int (0 + (k : Int)))), some (.d (.tup r)), b6, b7, ?_, fun y hy => ?_, ?_⟩⟩
    · rw [List.length_append, hl]; rfl
    · rcases List.mem_append.mp hy with h | h
      · exact ok y h
      · rw [List.mem_singleton.mp h]; exact ⟨hr, okr⟩
    · rw [List.map_append]
      rfl
  rintro ρ (t' : Nat) ⟨h1, rows, b4, b5, b6, b7, hl, ok, rfl⟩
  rw [rngD_length] at hl h1
  exact .inl ⟨_, rfl, _, rfl, q rows t' (by omega) ok (by omega)⟩


end
end Law

namespace Law
open PySem PySem.Spec PyProof.Rows L2 Tk
section
variable {P : Program} {w : World} {K : PySem.W.Frag} {mg : Str → Option Value} {base : Heap}
/-! ## tables -/
theorem ok_Table_init {C_Table : Addr} (T_Table : Tc_Table K mg C_Table)
    {E_Table_0 : Addr} {f_Table___init__ : Addr} {fd_Table___init__ : FuncData} (D_Table___init__ : Dk K mg "Table" C_Table "Table.__init__" st_Table___init__ ["self", "columns", "rows"] [V.ref E_Table_0] f_Table___init__ fd_Table___init__) (T : Tb mg) (W : Wo) [Free W] : FnG P w K mg base CX0 1 f_Table___init__ fd_Table___init__ ["self", "columns", "rows"] (spI W C_Table (tblI C_Table W)) := by
  refine okIx D_Table___init__.F sc_Table___init__ (by rintro _ _ _ ⟨_, _, rfl, _⟩; rfl) ?_
  rintro cdv A outer s H E y dy _ ω Q gd hr ⟨hs, rows, rfl, hl, q⟩
  refine ⟨_, (dss_cons (ds_setF T_Table.cls T_Table.na_heads (de_v 0) (de_f1T f_tuple rfl T.tuple (by decide +kernel) (de_v 1)))
    (dss_one (ds_setF T_Table.cls T_Table.na_lines (de_v 0) (de_lc (own := [("row", 3)]) rfl sc_Table___init__.nd (di_list (de_v 2)) (blkOk_by (own := [("row", 3)]) (N := ["self", "columns", "rows", "row"]) (sc := defScope st_Table___init__) (by decide +kernel)) (gf_name 3) (fun _ _ _ _ _ => (pg_name (i := 3) sc_Table___init__.nd rfl (.inl rfl))) ts_nil (fun _ _ _ _ _ => (de_f1T f_tuple rfl T.tuple (by decide +kernel) (de_v 3))))))), ?_⟩
  refine ⟨_, rfl, _, rfl, _, rfl, rfl, rfl, (by show 0 < 900; decide), ?_⟩
  refine ⟨_, rfl, _, rfl, lcW_map (fun x => x) _ _ (fun x hx => ?_) (by rw [List.length_map]; exact line1000 (by show 0 + rows.length ≤ 1000; omega)) ⟨_, rfl, rfl, (by show (["heads"] : List Str).contains "lines" = false; decide +kernel), (by show 1 < 900; decide), ?_⟩⟩
  · obtain ⟨r, _, rfl⟩ := List.mem_map.mp hx
    exact ⟨_, rfl, fun ω Q q => ⟨_, rfl, _, rfl, q⟩⟩
  · rw [List.nil_append, List.map_id']
    exact q
theorem ok_Table_columns {C_Table : Addr} (T_Table : Tc_Table K mg C_Table)
    {f_Table_columns : Addr} {fd_Table_columns : FuncData} (D_Table_columns : Dm K C_Table "columns" "Table.columns" st_Table_columns ["self"] f_Table_columns fd_Table_columns) (T : Tb mg) (W : Wo) [Free W] : FnG P w K mg base CX0 1 f_Table_columns fd_Table_columns ["self"] (spOf W fun ds ω Q => ∃ hs rows, ds = [tblD C_Table hs rows] ∧ Q (.tup (nmD hs)) ω) := by
  refine okD D_Table_columns.F sc_Table_columns (by rintro _ _ _ ⟨_, _, rfl, _⟩; rfl) ?_
  rintro cdv A outer s H E _ ω Q gd hr ⟨hs, rows, rfl, q⟩
  exact ⟨_, (dss_one (ds_ret (de_fld T_Table.cls T_Table.na_heads (de_v 0)))), _, rfl, _, _, _, rfl, rfl, q⟩

theorem ok_Table_rows {C_Table : Addr} (T_Table : Tc_Table K mg C_Table)
    {f_Table_rows : Addr} {fd_Table_rows : FuncData} (D_Table_rows : Dm K C_Table "rows" "Table.rows" st_Table_rows ["self"] f_Table_rows fd_Table_rows) (T : Tb mg) (W : Wo) [Free W] : FnG P w K mg base CX0 1 f_Table_rows fd_Table_rows ["self"] (spOf W fun ds ω Q => ∃ hs rows, ds = [tblD C_Table hs rows] ∧ Q (.lst (rows.map D.tup)) ω) := by
  refine okD D_Table_rows.F sc_Table_rows (by rintro _ _ _ ⟨_, _, rfl, _⟩; rfl) ?_
  rintro cdv A outer s H E _ ω Q gd hr ⟨hs, rows, rfl, q⟩
  exact ⟨_, (dss_one (ds_ret (de_f1T f_list rfl T.list (by decide +kernel) (de_fld T_Table.cls T_Table.na_lines (de_v 0))))), _, rfl, _, _, _, rfl, rfl, _, rfl, q⟩

def growS (p : Pn) (m : Int) (C N K : Nat) (ds : List D) (t : Nat) (Q : D → Nat → Prop) : Prop := ∃ k : Int, ds = [.ob p, .int k] ∧ k < m ∧ t + C < 2 ^ 60 ∧ ∀ d t', Sh 45 N K d → t' ≤ t + C → Q d t'
theorem odd_step {f f1 : Addr} {fd fd1 : FuncData} {j C N L : Nat} (D_l_odd : Df K mg "_law_odd" st_l_odd ["_law_pen_here", "_law_deep"] f fd) (T : Tb mg) (p : Pn) (D_l_draw : Df K mg "_law_draw" st_l_draw ["_law_pen_here", "_law_many"] f1 fd1)
    (m : Int) (S : Spd (PenW p)) (hS : ∀ (k : Int) (t : Nat) (Q : D → Nat → Prop), 0 ≤ k → k + 1 < m → t + C < 2 ^ 60 → (∀ d t', Sh 45 N L d → t' ≤ t + C → Q d t') → S [.ob p, .int k] t Q) (hN : 140 ≤ N)
    (G_l_odd : FnG P w K mg base CX0 j f fd ["_law_pen_here", "_law_deep"] (spOf (PenW p) S)) (hj : 1 ≤ j) : FnG P w K mg base CX0 (j + 1) f fd ["_law_pen_here", "_law_deep"] (spOf (PenW p) (growS p m (2 * C + 2) (2 * N + 5) (L + 2))) := by
  have G_l_draw := ok_l_draw (P := P) (w := w) (base := base) D_l_draw T p
  refine okD D_l_odd.F sc_l_odd (by rintro _ _ _ ⟨_, rfl, _⟩; rfl) ?_
  rintro cdv A outer s H E _ (t : Nat) Q gd hr ⟨k, rfl, hk, ht, q⟩
  refine ⟨_, (dss_cons (ds_frzLc 2 (ds_ownLc (i := 2) (own := [("_law_k", 4)]) rfl sc_l_odd.nd rfl rfl (sw_true rfl rfl rfl (by decide +kernel)) (di_rng1 rfl T.range (de_if (dp_cmp o_gt (de_v 1) de_int (nomark _)) (de_cl G_l_draw gd (hr.mono (by omega)) rfl D_l_draw.m D_l_draw.F.kp D_l_draw.b .nil .nil (dl_cons (de_v 0) (dl_cons de_int dl_nil))) de_int)) (blkOk_by (own := [("_law_k", 4)]) (N := ["_law_pen_here", "_law_deep", "_law_inner", "_law_some", "_law_k"]) (sc := defScope st_l_odd) (by decide +kernel)) (gf_name 4) (fun _ _ _ _ _ => (pg_name (i := 4) sc_l_odd.nd rfl (.inl rfl))) ts_nil (fun _ _ _ _ _ => (de_cl G_l_odd gd (hr.mono (by omega)) rfl D_l_odd.m D_l_odd.F.kp D_l_odd.b .nil .nil (dl_cons (de_v 0) (dl_cons (de_op o_sub (de_v 1) de_int) dl_nil))))))
    (dss_cons (ds_set (i := 3) sc_l_odd.nd rfl (.inl rfl) (de_lst (dl_cons de_non (dl_cons de_bl (dl_cons de_bl (dl_cons de_int (dl_cons de_int (dl_cons (de_neg de_int) (dl_cons (de_op o_sub (de_op o_pow de_int de_int) de_int) (dl_cons (de_op o_pow de_int de_int) (dl_cons (de_op o_sub de_int (de_op o_pow de_int de_int)) (dl_cons (de_neg (de_op o_pow de_int de_int)) (dl_cons (de_op o_pow de_int de_int) (dl_cons de_str (dl_cons de_str dl_nil)))))))))))))))
    (dss_cons (ds_set (i := 3) sc_l_odd.nd rfl (.inl rfl) (de_op o_add (de_v 3) (de_lst (dl_cons (de_op o_mul2 de_str de_int) (dl_cons (de_op o_mul2 de_str de_int) (dl_cons (de_op o_mul2 de_str de_int) (dl_cons (de_op o_mul2 de_str de_int) (dl_cons de_str (dl_cons de_str (dl_cons de_str (dl_cons de_str (dl_cons de_str (dl_cons de_str (dl_cons (de_lst dl_nil) (dl_cons de_d0 (dl_cons (de_tup dl_nil) dl_nil))))))))))))))))
    (dss_cons (ds_set (i := 3) sc_l_odd.nd rfl (.inl rfl) (de_op o_add (de_v 3) (de_lst (dl_cons (de_f1T f_tuple rfl T.tuple (by decide +kernel) (de_v 2)) (dl_cons (de_f1T f_tuple rfl T.tuple (by decide +kernel) (de_v 2)) (dl_cons (de_f1T f_tuple rfl T.tuple (by decide +kernel) (de_v 2)) (dl_cons (de_f1T f_list rfl T.list (by decide +kernel) (de_v 2)) (dl_cons (de_disp (dps_cons (de_f1T f_tuple rfl T.tuple (by decide +kernel) (de_v 2)) dps_nil) (by decide) rfl rfl (fun z => by cases z) (by decide)) dl_nil))))))))
    (dss_one (ds_ret (de_ix (de_v 3) (de_cl G_l_draw gd (hr.mono (by omega)) rfl D_l_draw.m D_l_draw.F.kp D_l_draw.b .nil .nil (dl_cons (de_v 0) (dl_cons (de_f1 f_len rfl T.len (by decide +kernel) (de_v 3)) dl_nil)))))))))), ?_⟩
  refine cut (W := PenW p) (te := dIf _ _ _) (fun d (t' : Nat) => ∃ n : Int, d = .int n ∧ 0 ≤ n ∧ n ≤ 2 ∧ t' ≤ t + 1 ∧ (0 < n → 0 < k)) (fun Q' hq => ?_) ?_
  · refine ⟨_, rfl, _, rfl, _, rfl, ite_i (fun h => ?_) fun _ => ?_⟩
    · have h' : 0 < k := by simpa using h
      exact ⟨_, rfl, 3, rfl, by decide, by decide, by omega, fun n a b => hq _ _ ⟨n, rfl, a, by omega, Nat.le_refl _, fun _ => h'⟩⟩
    · exact hq _ _ ⟨0, rfl, by omega, by omega, Nat.le_succ _, fun z => absurd z (by decide)⟩
  rintro _ (t1 : Nat) ⟨n, rfl, n0, n2, h1, hp⟩
  refine ⟨n, rfl, by omega, by omega, lcW_inv (W := PenW p) (fun i acc (t' : Nat) => acc.length = i ∧ (∀ x ∈ acc, Sh 45 N L x) ∧ t' ≤ t1 + i * C) _ _ (i := 0) ?_ ⟨rfl, (fun x hx => absurd hx List.not_mem_nil), (by omega)⟩ ?_ ?_⟩
  · rw [rngD_length]; exact line1000 (by show 0 + n.toNat ≤ 1000; omega)
  · rintro i x acc (t2 : Nat) hx ⟨e, ha, hb⟩
    obtain ⟨hi, rfl⟩ := rngD_at hx
    have hi2 : 0 + i = 0 ∨ 0 + i = 1 := by omega
    have hb' : t2 ≤ t1 + C := by rcases hi2 with z | z <;> rw [z] at hb <;> omega
    refine ⟨_, rfl, fun Q' hq => ⟨_, rfl, _, rfl, _, rfl, hS _ _ _ (by omega) (by omega) (by omega) fun d t' hd h' => hq _ _ ⟨by simp [e], ?_, ?_⟩⟩⟩
    · intro y hy
      rcases List.mem_append.mp hy with hy | hy
      · exact ha y hy
      · rw [List.mem_singleton.mp hy]; exact hd
    · rcases hi2 with z | z <;> rw [z] at hb ⊢ <;> omega
  · rintro xs (t2 : Nat) ⟨e, ha, hb⟩
    rw [rngD_length, Nat.zero_add] at e hb
    have hl : xs.length ≤ 2 := by omega
    have ht2 : t2 ≤ t + 2 * C + 1 := by
      have : n.toNat * C ≤ 2 * C := Nat.mul_le_mul_right _ (by omega)
      omega
    refine ⟨_, rfl, _, rfl, by show 2 < 5; decide, ?_⟩
    refine ⟨_, rfl, _, rfl, _, rfl, _, rfl, _, rfl, _, rfl, _, rfl, _, rfl, _, rfl, by decide, ?_⟩
    refine ⟨_, rfl, _, rfl, _, rfl, _, rfl, _, rfl, by decide, by decide, by decide, _, rfl, ?_⟩
    refine ⟨_, rfl, _, rfl, _, rfl, _, rfl, _, rfl, _, rfl, _, rfl, _, rfl, _, rfl, _, rfl, _, rfl, (by show 5 ≤ sizeLine; decide), _, rfl, ?_⟩
    refine ⟨_, rfl, _, rfl, _, rfl, _, rfl, 31, rfl, by decide, by decide, by omega, fun i i0 i1 => ?_⟩
    refine ix_i (n := 31) i0 rfl (by omega) fun x hx => q _ _ ?_ (by show t2 + 1 ≤ _; omega)
    have ht : Sh 45 (2 * (N + 1)) (L + 1) (.tup xs) := Sh.tup ha hl (by decide) (Nat.le_refl _) (Nat.le_refl _)
    simp only [List.mem_append, List.mem_cons, List.not_mem_nil, or_false] at hx
    have fin : ∀ d : D, shB 45 140 2 d = true → Sh 45 (2 * N + 5) (L + 2) d := fun d h => (Sh.of h).le (by omega) (by omega)
    rcases hx with ((rfl | rfl | rfl | rfl | rfl | rfl | rfl | rfl | rfl | rfl | rfl | rfl | rfl) | (rfl | rfl | rfl | rfl | rfl | rfl | rfl | rfl | rfl | rfl | rfl | rfl | rfl)) | rfl | rfl | rfl | rfl | rfl
    all_goals first | exact fin _ (by decide +kernel) | exact ht.le (by omega) (by omega) | skip
    · exact Sh.lst ha hl (by decide) (by omega) (by omega)
    · show Sh 45 _ _ (.dic [(.inr ("a" : Str), .tup xs)])
      exact Sh.dic1 ht (m := 1) (by decide +kernel) (by omega) (by omega)
theorem ok_l_odd {f f1 : Addr} {fd fd1 : FuncData} (D_l_odd : Df K mg "_law_odd" st_l_odd ["_law_pen_here", "_law_deep"] f fd) (T : Tb mg) (p : Pn) (D_l_draw : Df K mg "_law_draw" st_l_draw ["_law_pen_here", "_law_many"] f1 fd1) :
    FnG P w K mg base CX0 5 f fd ["_law_pen_here", "_law_deep"] (spOf (PenW p) (growS p 4 30 2315 8)) := by
  have g1 := odd_step (P := P) (w := w) (base := base) (j := 1) (C := 0) (N := 140) (L := 0) D_l_odd T p D_l_draw 1 (fun _ _ _ => False) (fun k t Q a b => by omega) (by decide) FnG.no (by decide)
  have g2 := odd_step (P := P) (w := w) (base := base) D_l_odd T p D_l_draw 2 _ (fun k t Q a b c d => ⟨k, rfl, by omega, c, d⟩) (by decide) g1 (by decide)
  have g3 := odd_step (P := P) (w := w) (base := base) D_l_odd T p D_l_draw 3 _ (fun k t Q a b c d => ⟨k, rfl, by omega, c, d⟩) (by decide) g2 (by decide)
  exact odd_step (P := P) (w := w) (base := base) D_l_odd T p D_l_draw 4 _ (fun k t Q a b c d => ⟨k, rfl, by omega, c, d⟩) (by decide) g3 (by decide)


end
end Law

namespace Law
open PySem PySem.Spec PyProof.Rows L2 Tk
section
variable {P : Program} {w : World} {K : PySem.W.Frag} {mg : Str → Option Value} {base : Heap}
/-! ## words of any text -/
theorem wdB_eq (l : List Nat) (m : Nat) : wdB l m = (decide (1 ≤ l.length) && (decide (l.length ≤ m) && l.all fun c => decide (c ∈ abcL))) := rfl
theorem no_short {l : List Nat} {m : Nat} (h : decide ((1 : Int) ≤ (l.length : Int)) = false) : wdB l m = false := by
  have h' := of_decide_eq_false h
  rw [wdB_eq, decide_eq_false (p := 1 ≤ l.length) (by omega)]
  rfl
theorem no_long {l : List Nat} {m : Nat} (h : decide ((l.length : Int) ≤ (m : Int)) = false) : wdB l m = false := by
  have h' := of_decide_eq_false h
  rw [wdB_eq, decide_eq_false (p := l.length ≤ m) (by omega), Bool.false_and, Bool.and_false]
theorem odd_sign (z : Str) (c : Nat) : signsAll z ⟨#[c]⟩ = decide (c ∈ z.cps.toList) := by simp [signsAll]
def offS (z : Str) (d : D) : Bool := match d with | .str y => !signsAll z y | _ => false
theorem filt_nil (z : Str) (l : List Nat) : (([] : List D) ++ ((Tk.signs (tx l)).filter (offS z)).map id).isEmpty = l.all (fun c => decide (c ∈ z.cps.toList)) := by
  rw [List.nil_append, List.map_id]
  unfold Tk.signs
  rw [tx_cps]
  induction l with
  | nil => rfl
  | cons c cs ih =>
    rw [List.map_cons, List.all_cons, ← ih, List.filter_cons]
    show (if (!signsAll z ⟨#[c]⟩) = true then _ else _ : List D).isEmpty = _
    rw [odd_sign]
    cases decide (c ∈ z.cps.toList) <;> rfl
theorem no_h {α : Prop} (h : true = false) : α := by cases h
theorem so_far {l : List Nat} {m : Nat} (h1 : decide ((1 : Int) ≤ (l.length : Int)) = true) (h2 : decide ((l.length : Int) ≤ (m : Int)) = true) : wdB l m = l.all (fun c => decide (c ∈ abcL)) ∧ l.length ≤ m := by
  have a := of_decide_eq_true h1
  have b := of_decide_eq_true h2
  rw [wdB_eq, decide_eq_true (show 1 ≤ l.length by omega), decide_eq_true (show l.length ≤ m by omega)]
  exact ⟨rfl, by omega⟩
theorem ok_is_word {f_is_word : Addr} {fd_is_word : FuncData} (D_is_word : Df K mg "is_word" st_is_word ["thing", "most"] f_is_word fd_is_word) (T : Tb mg) (W : Wo) [Free W] : FnG P w K mg base CX0 1 f_is_word fd_is_word ["thing", "most"] (spOf W fun ds ω Q => ∃ (l : List Nat) (m : Nat), ds = [.str (tx l), .int (m : Int)] ∧ l.length ≤ 20000 ∧ m ≤ 1000 ∧ Q (.bl (wdB l m)) ω) := by
  refine okD D_is_word.F sc_is_word (by rintro _ _ _ ⟨_, _, rfl, _⟩; rfl) ?_
  rintro cdv A outer s H E _ ω Q gd hr ⟨l, m, rfl, hl, hm, q⟩
  refine ⟨_, (dss_one (ds_ret (de_and (de_isi (T := "str") (by decide +kernel) rfl T.isinstance (de_v 0) rfl T.str (by decide +kernel)) (de_and (de_ch o_le o_le de_int (de_f1 f_len rfl T.len (by decide +kernel) (de_v 0)) (de_v 1)) (de_one (de_f1 (f_all rfl) rfl T.all (by decide +kernel) (de_lc (own := [("sign", 2)]) rfl sc_is_word.nd (di_str (de_v 0)) (blkOk_by (own := [("sign", 2)]) (N := ["thing", "most", "sign"]) (sc := defScope st_is_word) (by decide +kernel)) (gf_name 2) (fun _ _ _ _ _ => (pg_name (i := 2) sc_is_word.nd rfl (.inl rfl))) ts_nil (fun _ _ _ _ _ => (de_cmp o_in (de_v 2) (de_gS rfl T.c_LETTERS) (by rfl)))))))))), ?_⟩
  refine ⟨_, rfl, rfl, _, rfl, ite_i (fun _ => ?_) fun h => no_h h⟩
  refine ⟨_, rfl, _, len_txB hl, _, rfl, ite_i (fun h1 => ⟨_, rfl, _, rfl, _, rfl, ite_i (fun h2 => ?_) fun h2 => ?_⟩) fun h1 => ⟨_, rfl, ite_i (fun h => absurd (show (false : Bool) = true from h) (by decide)) fun _ => ?_⟩⟩
  · obtain ⟨e, hlm⟩ := so_far h1 h2
    rw [e] at q
    exact ⟨_, rfl, _, rfl, all_signs (z := abc) (by omega) (fun c _ ω Q q => ⟨_, rfl, _, rfl, q⟩) ⟨_, allD_map _ _, q⟩⟩
  · rw [no_long h2] at q
    exact q
  · rw [no_short h1] at q
    exact q
theorem ok_is_name {f_is_name : Addr} {fd_is_name : FuncData} (D_is_name : Df K mg "is_name" st_is_name ["thing"] f_is_name fd_is_name)
    {f_is_word : Addr} {fd_is_word : FuncData} (D_is_word : Df K mg "is_word" st_is_word ["thing", "most"] f_is_word fd_is_word) (T : Tb mg) (W : Wo) [Free W] : FnG P w K mg base CX0 2 f_is_name fd_is_name ["thing"] (spOf W fun ds ω Q => ∃ l : List Nat, ds = [.str (tx l)] ∧ l.length ≤ 20000 ∧ Q (.bl (wdB l 8)) ω) := by
  have G_is_word := ok_is_word (P := P) (w := w) (base := base) D_is_word T W
  refine okD D_is_name.F sc_is_name (by rintro _ _ _ ⟨_, rfl, _⟩; rfl) ?_
  rintro cdv A outer s H E _ ω Q gd hr ⟨l, rfl, hl, q⟩
  refine ⟨_, (dss_one (ds_ret (de_cl G_is_word gd (hr.mono (by decide)) rfl D_is_word.m D_is_word.F.kp D_is_word.b .nil .nil (dl_cons (de_v 0) (dl_cons de_int dl_nil))))), ?_⟩
  exact ⟨_, rfl, _, 8, rfl, hl, by decide, q⟩
theorem ok_l_letters {f_l_letters : Addr} {fd_l_letters : FuncData} (D_l_letters : Df K mg "_law_letters" st_l_letters ["_law_thing", "_law_most"] f_l_letters fd_l_letters) (T : Tb mg) (W : Wo) [Free W] : FnG P w K mg base CX0 1 f_l_letters fd_l_letters ["_law_thing", "_law_most"] (spOf W fun ds ω Q => ∃ (l : List Nat) (m : Nat), ds = [.str (tx l), .int (m : Int)] ∧ l.length ≤ 20000 ∧ m ≤ 1000 ∧ Q (.bl (wdB l m)) ω) := by
  refine okD D_l_letters.F sc_l_letters (by rintro _ _ _ ⟨_, _, rfl, _⟩; rfl) ?_
  rintro cdv A outer s H E _ ω Q gd hr ⟨l, m, rfl, hl, hm, q⟩
  have hu := hr.units
  refine ⟨_, (dss_cons (ds_if (DW.dp (dw_or (dp_not (dp_val (de_isi (T := "str") (by decide +kernel) rfl T.isinstance (de_v 0) rfl T.str (by decide +kernel)))) (dw_or1 (dp_not (dp_ch o_le o_le de_int (de_f1 f_len rfl T.len (by decide +kernel) (de_v 0)) (de_v 1)))))) (dss_one (ds_ret de_bl)) dss_nil)
    (dss_one (ds_ret (de_cmp (o_eq2 hu) (de_lc (own := [("_law_sign", 2)]) rfl sc_l_letters.nd (di_str (de_v 0)) (blkOk_by (own := [("_law_sign", 2)]) (N := ["_law_thing", "_law_most", "_law_sign"]) (sc := defScope st_l_letters) (by decide +kernel)) (gf_name 2) (fun _ _ _ _ _ => (pg_name (i := 2) sc_l_letters.nd rfl (.inl rfl))) (ts_one fun _ _ _ _ _ => (dp_cmp o_notin (de_v 2) de_str (by rfl))) (fun _ _ _ _ _ => (de_v 2))) (de_lst dl_nil) (nomark _))))), ?_⟩
  refine ⟨_, rfl, rfl, _, rfl, ite_i (fun h => absurd (show (false : Bool) = true from h) (by decide)) fun _ => ?_⟩
  refine ⟨_, rfl, _, len_txB hl, _, rfl, ite_i (fun h1 => ⟨_, rfl, _, rfl, _, rfl, ?_⟩) fun h1 => ⟨_, rfl, ite_i (fun _ => ?_) fun h => no_h h⟩⟩
  · by_cases h2 : decide ((l.length : Int) ≤ (m : Int)) = true
    · obtain ⟨e, hlm⟩ := so_far h1 h2
      rw [e] at q
      rw [h2]
      refine ite_i (fun h => absurd (show (false : Bool) = true from h) (by decide)) fun _ => ?_
      refine ⟨_, rfl, _, rfl, lcW_filter (offS abc) id _ _ (fun y hy => ?_) (by rw [signs_len, tx_len]; exact big_line (by simp; omega)) ?_⟩
      · obtain ⟨c, rfl, hc⟩ := signs_mem hy
        refine ⟨_, rfl, fun ω Q q => ⟨_, rfl, _, rfl, _, rfl, ?_⟩, fun _ ω Q q => ⟨_, rfl, q⟩⟩
        have q' : Q (!signsAll abc ⟨#[c]⟩) ω := q
        rw [odd_sign] at q'
        exact q'
      · refine ⟨Nat.zero_le _, _, eqD2_nil _, ?_⟩
        rw [filt_nil]
        exact q
    · have h3 : decide ((l.length : Int) ≤ (m : Int)) = false := Bool.eq_false_iff.mpr h2
      rw [no_long h3] at q
      rw [h3]
      exact ite_i (fun _ => q) fun h => no_h h
  · rw [no_short h1] at q
    exact q
theorem ok_l_is_name {f_l_is_name : Addr} {fd_l_is_name : FuncData} (D_l_is_name : Df K mg "_law_is_name" st_l_is_name ["_law_thing"] f_l_is_name fd_l_is_name)
    {f_l_letters : Addr} {fd_l_letters : FuncData} (D_l_letters : Df K mg "_law_letters" st_l_letters ["_law_thing", "_law_most"] f_l_letters fd_l_letters) (T : Tb mg) (W : Wo) [Free W] : FnG P w K mg base CX0 2 f_l_is_name fd_l_is_name ["_law_thing"] (spOf W fun ds ω Q => ∃ l : List Nat, ds = [.str (tx l)] ∧ l.length ≤ 20000 ∧ Q (.bl (wdB l 8)) ω) := by
  have G_l_letters := ok_l_letters (P := P) (w := w) (base := base) D_l_letters T W
  refine okD D_l_is_name.F sc_l_is_name (by rintro _ _ _ ⟨_, rfl, _⟩; rfl) ?_
  rintro cdv A outer s H E _ ω Q gd hr ⟨l, rfl, hl, q⟩
  refine ⟨_, (dss_one (ds_ret (de_cl G_l_letters gd (hr.mono (by decide)) rfl D_l_letters.m D_l_letters.F.kp D_l_letters.b .nil .nil (dl_cons (de_v 0) (dl_cons de_int dl_nil))))), ?_⟩
  exact ⟨_, rfl, _, 8, rfl, hl, by decide, q⟩


end
end Law

namespace Law
open PySem PySem.Spec PyProof.Rows L2 Tk
section
variable {P : Program} {w : World} {K : PySem.W.Frag} {mg : Str → Option Value} {base : Heap}
/-! ## a word as a cell, by both -/
theorem int_wordD {l : List Nat} (h : isNumB l = true) (hl : l.length ≤ 640) : Tk.intD (.str (tx l)) = some (.int (numV l)) := by
  show (if (tx l).length ≤ 640 then (PySem.intText? (tx l)).map D.int else none) = _
  rw [if_pos (by rw [tx_len]; exact hl), int_word h]
  rfl
theorem fgs_len (l : List Nat) : (fgs l).length ≤ l.length := by
  unfold fgs
  split
  · rw [List.length_drop]; omega
  · exact Nat.le_refl _
theorem len_fgs (l : List Nat) : l.length ≤ (fgs l).length + 1 := by
  unfold fgs
  split
  · rw [List.length_drop]; omega
  · omega
theorem cellW_star {l : List Nat} (h : l = [42]) : cellW l = [.non] := if_pos h
theorem cellW_word {l : List Nat} (h : ¬ l = [42]) (hw : wdB l 12 = true) : cellW l = [.str (tx l)] := by unfold cellW; rw [if_neg h, if_pos hw]
theorem cellW_num {l : List Nat} (h : ¬ l = [42]) (hw : wdB l 12 = false) (hn : isNumB l = true) (hz : zeroB l = false) : cellW l = [.int (numV l)] := by
  unfold cellW; rw [if_neg h, if_neg (by rw [hw]; decide), if_pos ⟨hn, hz⟩]
theorem cellW_no {l : List Nat} (h : ¬ l = [42]) (hw : wdB l 12 = false) (hn : isNumB l = true → zeroB l = true) : cellW l = [] := by
  unfold cellW
  rw [if_neg h, if_neg (by rw [hw]; decide), if_neg]
  rintro ⟨a, b⟩
  rw [hn a] at b
  cases b
theorem not_num1 {l : List Nat} (h : decide ((1 : Int) ≤ ((fgs l).length : Int)) = false) : isNumB l = false := by
  have h' := of_decide_eq_false h
  unfold isNumB
  rw [decide_eq_false (p := 1 ≤ (fgs l).length) (by omega)]
  rfl
theorem not_num2 {l : List Nat} (h : decide (((fgs l).length : Int) ≤ 15) = false) : isNumB l = false := by
  have h' := of_decide_eq_false h
  unfold isNumB
  rw [decide_eq_false (p := (fgs l).length ≤ 15) (by omega), Bool.and_false]
  rfl
theorem not_num3 {l : List Nat} (h : digB (fgs l) = false) : isNumB l = false := by
  unfold isNumB
  rw [h, Bool.and_false]
theorem is_num {l : List Nat} (h1 : decide ((1 : Int) ≤ ((fgs l).length : Int)) = true) (h2 : decide (((fgs l).length : Int) ≤ 15) = true) (h3 : digB (fgs l) = true) : isNumB l = true := by
  have a := of_decide_eq_true h1
  have b := of_decide_eq_true h2
  unfold isNumB
  rw [decide_eq_true (p := 1 ≤ (fgs l).length) (by omega), decide_eq_true (p := (fgs l).length ≤ 15) (by omega), h3]
  rfl
theorem vac {α : Prop} {b : Bool} (h : b = false) : b = true → α := fun z => by rw [h] at z; cases z
theorem ok_read_word {f_read_word : Addr} {fd_read_word : FuncData} (D_read_word : Df K mg "read_word" st_read_word ["word"] f_read_word fd_read_word)
    {f_is_word : Addr} {fd_is_word : FuncData} (D_is_word : Df K mg "is_word" st_is_word ["thing", "most"] f_is_word fd_is_word) (T : Tb mg) (W : Wo) [Free W] : FnG P w K mg base CX0 2 f_read_word fd_read_word ["word"] (spOf W fun ds ω Q => ∃ l : List Nat, ds = [.str (tx l)] ∧ l.length ≤ 20000 ∧ Q (.tup (cellW l)) ω) := by
  have G_is_word := ok_is_word (P := P) (w := w) (base := base) D_is_word T W
  refine okD D_read_word.F sc_read_word (by rintro _ _ _ ⟨_, rfl, _⟩; rfl) ?_
  rintro cdv A outer s H E _ ω Q gd hr ⟨l, rfl, hl, q⟩
  have hu := hr.units
  refine ⟨_, (dss_cons (ds_if (dp_cmp (o_eq2 hu) (de_v 0) de_str (nomark _)) (dss_one (ds_ret (de_tup (dl_cons de_non dl_nil)))) dss_nil)
    (dss_cons (ds_if (dp_val (de_cl G_is_word gd (hr.mono (by decide)) rfl D_is_word.m D_is_word.F.kp D_is_word.b .nil .nil (dl_cons (de_v 0) (dl_cons (de_gI rfl T.c_MOST_LETTERS) dl_nil)))) (dss_one (ds_ret (de_tup (dl_cons (de_v 0) dl_nil)))) dss_nil)
    (dss_cons (ds_set (i := 1) sc_read_word.nd rfl (.inl rfl) (de_if (dp_cmp (o_eq2 hu) (de_sl (de_v 0) do_no (do_some de_int)) de_str (nomark _)) (de_sl (de_v 0) (do_some de_int) do_no) (de_v 0)))
    (dss_cons (ds_if (DW.dp (dw_and (dp_ch o_le o_le de_int (de_f1 f_len rfl T.len (by decide +kernel) (de_v 1)) de_int) (dw_and (dp_val (de_f1 (f_all rfl) rfl T.all (by decide +kernel) (de_lc (own := [("sign", 2)]) rfl sc_read_word.nd (di_str (de_v 1)) (blkOk_by (own := [("sign", 2)]) (N := ["word", "figures", "sign"]) (sc := defScope st_read_word) (by decide +kernel)) (gf_name 2) (fun _ _ _ _ _ => (pg_name (i := 2) sc_read_word.nd rfl (.inl rfl))) ts_nil (fun _ _ _ _ _ => (de_cmp o_in (de_v 2) (de_gS rfl T.c_FIGURES) (by rfl)))))) (dw_and1 (dp_cmp (o_eq2 hu) (de_f1T f_str rfl T.str (by decide +kernel) (de_f1T f_int rfl T.int (by decide +kernel) (de_v 0))) (de_v 0) (nomark _)))))) (dss_one (ds_ret (de_tup (dl_cons (de_f1T f_int rfl T.int (by decide +kernel) (de_v 0)) dl_nil)))) dss_nil)
    (dss_one (ds_ret (de_tup dl_nil))))))), ?_⟩
  have star : eqD2 (.str (tx l)) (.str "*") = some (.bl (decide (l = [42]))) := eqs_tx (b := [42])
  refine ⟨_, rfl, _, star, _, rfl, ite_i (fun h => ?_) fun h => ?_⟩
  · rw [cellW_star (of_decide_eq_true h)] at q
    exact ⟨(by show 1 ≤ sizeLine; decide), q⟩
  have ne := of_decide_eq_false h
  refine ⟨_, rfl, l, 12, rfl, hl, by decide, _, rfl, ite_i (fun hw => ?_) fun hw => ?_⟩
  · rw [cellW_word ne hw] at q
    exact ⟨_, rfl, (by show 1 ≤ sizeLine; decide), q⟩
  refine nextI ?_
  dsimp only
  have e1 : slD (.str (tx l)) none (some 1) = some (.str (tx (l.take 1))) := sl_toB (n := 1) hl
  have e2 : slD (.str (tx l)) (some 1) none = some (.str (tx (l.drop 1))) := sl_fromB (n := 1) hl
  refine setI (fun d ω' => d = .str (tx (fgs l)) ∧ ω = ω') (fun Q' hq => ?_) ?_
  · refine ⟨_, rfl, _, rfl, _, e1, _, eqs_tx (b := [45]), _, rfl, ?_⟩
    refine ite_i (fun c => ⟨_, rfl, _, rfl, _, e2, hq _ _ ⟨?_, rfl⟩⟩) fun c => ⟨_, rfl, hq _ _ ⟨?_, rfl⟩⟩
    · unfold fgs; rw [if_pos (of_decide_eq_true c)]
    · unfold fgs; rw [if_neg (of_decide_eq_false c)]
  rintro _ _ ⟨rfl, rfl⟩
  have fl := fgs_len l
  have no : (isNumB l = true → zeroB l = true) → Q (.tup []) ω := fun z => by
    rw [cellW_no ne hw z] at q
    exact q
  refine ⟨_, rfl, _, len_txB (by omega), _, rfl, ite_i (fun h1 => ⟨_, rfl, _, rfl, ite_i (fun h2 => ?_) fun h2 => ?_⟩) fun h1 => ⟨_, rfl, ite_i (fun h => absurd (show (false : Bool) = true from h) (by decide)) fun _ => ite_i (fun h => absurd (show (false : Bool) = true from h) (by decide)) fun _ => ⟨Nat.zero_le _, no (vac (not_num1 h1))⟩⟩⟩
  · have l16 := len_fgs l
    have b := of_decide_eq_true h2
    refine ⟨_, rfl, _, rfl, all_signs (z := figs) (by omega) (fun c _ ω Q q => ⟨_, rfl, _, rfl, q⟩) ?_⟩
    refine ⟨_, allD_map _ _, _, rfl, ?_⟩
    refine ite_i (fun h3 => ?_) fun h3 => ite_i (fun h => absurd (show (false : Bool) = true from h) (by decide)) fun _ => ⟨Nat.zero_le _, no (vac (not_num3 h3))⟩
    have hn := is_num h1 h2 h3
    refine ⟨_, rfl, _, int_wordD hn (by omega), _, strD_int (num_small hn), _, rfl, _, eqs_tx, _, rfl, ?_⟩
    refine ite_i (fun h4 => ?_) fun h4 => ⟨Nat.zero_le _, no fun _ => ?_⟩
    · have hz := (fig_word_iff hn).mp (of_decide_eq_true h4)
      rw [cellW_num ne hw hn hz] at q
      exact ⟨_, rfl, _, int_wordD hn (by omega), (by show 1 ≤ sizeLine; decide), q⟩
    · have hz := of_decide_eq_false h4
      cases z : zeroB l with
      | true => rfl
      | false => exact absurd ((fig_word_iff hn).mpr z) hz
  · exact ite_i (fun h => absurd (show (false : Bool) = true from h) (by decide)) fun _ => ⟨Nat.zero_le _, no (vac (not_num2 h2))⟩
theorem one_sh {l : List Nat} (ha : Asc l) (p : D → Bool) (hl : l.length ≤ 1000) : shp (.lst (([] : List D) ++ ((Tk.signs (tx l)).filter p).map id)) = true := by
  rw [List.nil_append, List.map_id]
  have mem : ∀ x ∈ (Tk.signs (tx l)).filter p, ∃ c ∈ l, x = .str (tx [c]) := fun x hx => by
    obtain ⟨c, rfl, hc⟩ := signs_mem (List.mem_filter.mp hx).1
    exact ⟨c, hc, rfl⟩
  refine (Sh.lst (B := 45) (n := 20) (k := 0) (m := 1000) (n' := 21000) (k' := 1) (fun x hx => ?_) ?_ (by decide) (by decide) (by decide)).shp (pnL_all fun x hx => ?_) (by decide)
  · obtain ⟨c, hc, rfl⟩ := mem x hx
    exact tx_sh ⟨by simp, fun d hd => by rw [List.mem_singleton.mp hd]; exact ha c hc⟩
  · have := List.length_filter_le p (Tk.signs (tx l))
    rw [signs_len, tx_len] at this
    omega
  · obtain ⟨c, hc, rfl⟩ := mem x hx
    rfl
theorem ok_l_cell_of_word {f_l_cell_of_word : Addr} {fd_l_cell_of_word : FuncData} (D_l_cell_of_word : Df K mg "_law_cell_of_word" st_l_cell_of_word ["_law_word"] f_l_cell_of_word fd_l_cell_of_word)
    {f_l_letters : Addr} {fd_l_letters : FuncData} (D_l_letters : Df K mg "_law_letters" st_l_letters ["_law_thing", "_law_most"] f_l_letters fd_l_letters) (T : Tb mg) (W : Wo) [Free W] : FnG P w K mg base CX0 2 f_l_cell_of_word fd_l_cell_of_word ["_law_word"] (spOf W fun ds ω Q => ∃ l : List Nat, ds = [.str (tx l)] ∧ l.length ≤ 20000 ∧ Asc l ∧ Q (.lst (cellW l)) ω) := by
  have G_l_letters := ok_l_letters (P := P) (w := w) (base := base) D_l_letters T W
  refine okD D_l_cell_of_word.F sc_l_cell_of_word (by rintro _ _ _ ⟨_, rfl, _⟩; rfl) ?_
  rintro cdv A outer s H E _ ω Q gd hr ⟨l, rfl, hl, ha, q⟩
  have hu := hr.units
  refine ⟨_, (dss_cons (ds_if (dp_cmp (o_eq2 hu) (de_v 0) de_str (nomark _)) (dss_one (ds_ret (de_lst (dl_cons de_non dl_nil)))) dss_nil)
    (dss_cons (ds_if (dp_val (de_cl G_l_letters gd (hr.mono (by decide)) rfl D_l_letters.m D_l_letters.F.kp D_l_letters.b .nil .nil (dl_cons (de_v 0) (dl_cons de_int dl_nil)))) (dss_one (ds_ret (de_lst (dl_cons (de_v 0) dl_nil)))) dss_nil)
    (dss_cons (ds_set (i := 1) sc_l_cell_of_word.nd rfl (.inl rfl) (de_if (dp_cmp (o_eq2 hu) (de_sl (de_v 0) do_no (do_some de_int)) de_str (nomark _)) (de_sl (de_v 0) (do_some de_int) do_no) (de_v 0)))
    (dss_cons (ds_if (DW.dp (dw_or (dp_not (dp_ch o_le o_le de_int (de_f1 f_len rfl T.len (by decide +kernel) (de_v 1)) de_int)) (dw_or1 (dp_cmp (o_ne hu) (de_lc (own := [("_law_sign", 2)]) rfl sc_l_cell_of_word.nd (di_str (de_v 1)) (blkOk_by (own := [("_law_sign", 2)]) (N := ["_law_word", "_law_figures", "_law_sign"]) (sc := defScope st_l_cell_of_word) (by decide +kernel)) (gf_name 2) (fun _ _ _ _ _ => (pg_name (i := 2) sc_l_cell_of_word.nd rfl (.inl rfl))) (ts_one fun _ _ _ _ _ => (dp_cmp o_notin (de_v 2) de_str (by rfl))) (fun _ _ _ _ _ => (de_v 2))) (de_lst dl_nil) (nomark _))))) (dss_one (ds_ret (de_lst dl_nil))) dss_nil)
    (dss_cons (ds_if (DW.dp (dw_and (dp_cmp (o_eq2 hu) (de_ix (de_v 1) de_int) de_str (nomark _)) (dw_and1 (dp_cmp (o_ne hu) (de_v 0) de_str (nomark _))))) (dss_one (ds_ret (de_lst dl_nil))) dss_nil)
    (dss_one (ds_ret (de_lst (dl_cons (de_f1T f_int rfl T.int (by decide +kernel) (de_v 0)) dl_nil))))))))), ?_⟩
  have star : eqD2 (.str (tx l)) (.str "*") = some (.bl (decide (l = [42]))) := eqs_tx (b := [42])
  refine ⟨_, rfl, _, star, _, rfl, ite_i (fun h => ?_) fun h => ?_⟩
  · rw [cellW_star (of_decide_eq_true h)] at q
    exact ⟨(by show 1 ≤ sizeLine; decide), q⟩
  have ne := of_decide_eq_false h
  refine ⟨_, rfl, l, 12, rfl, hl, by decide, _, rfl, ite_i (fun hw => ?_) fun hw => ?_⟩
  · rw [cellW_word ne hw] at q
    exact ⟨_, rfl, (by show 1 ≤ sizeLine; decide), q⟩
  refine nextI ?_
  dsimp only
  have e1 : slD (.str (tx l)) none (some 1) = some (.str (tx (l.take 1))) := sl_toB (n := 1) hl
  have e2 : slD (.str (tx l)) (some 1) none = some (.str (tx (l.drop 1))) := sl_fromB (n := 1) hl
  refine setI (fun d ω' => d = .str (tx (fgs l)) ∧ ω = ω') (fun Q' hq => ?_) ?_
  · refine ⟨_, rfl, _, rfl, _, e1, _, eqs_tx (b := [45]), _, rfl, ?_⟩
    refine ite_i (fun c => ⟨_, rfl, _, rfl, _, e2, hq _ _ ⟨?_, rfl⟩⟩) fun c => ⟨_, rfl, hq _ _ ⟨?_, rfl⟩⟩
    · unfold fgs; rw [if_pos (of_decide_eq_true c)]
    · unfold fgs; rw [if_neg (of_decide_eq_false c)]
  rintro _ _ ⟨rfl, rfl⟩
  have fl := fgs_len l
  have fa : Asc (fgs l) := fun c hc => by
    unfold fgs at hc
    split at hc
    · exact ha c (List.mem_of_mem_drop hc)
    · exact ha c hc
  have no : (isNumB l = true → zeroB l = true) → Q (.lst []) ω := fun z => by
    rw [cellW_no ne hw z] at q
    exact q
  refine ⟨_, rfl, _, len_txB (by omega), _, rfl, ite_i (fun h1 => ⟨_, rfl, _, rfl, ?_⟩) fun h1 => ⟨_, rfl, ite_i (fun _ => ite_i (fun _ => ⟨Nat.zero_le _, no (vac (not_num1 h1))⟩) fun h => no_h h) fun h => no_h h⟩⟩
  by_cases h2 : decide (((fgs l).length : Int) ≤ 15) = true
  · have l16 := len_fgs l
    have b := of_decide_eq_true h2
    rw [h2]
    refine ite_i (fun h => absurd (show (false : Bool) = true from h) (by decide)) fun _ => ?_
    refine ⟨_, rfl, _, rfl, lcW_filter (offS figs) id _ _ (fun y hy => ?_) (by rw [signs_len, tx_len]; exact big_line (by simp; omega)) ?_⟩
    · obtain ⟨c, rfl, hc⟩ := signs_mem hy
      refine ⟨_, rfl, fun ω Q q => ⟨_, rfl, _, rfl, _, rfl, ?_⟩, fun _ ω Q q => ⟨_, rfl, q⟩⟩
      have q' : Q (!signsAll figs ⟨#[c]⟩) ω := q
      rw [odd_sign] at q'
      exact q'
    refine ⟨Nat.zero_le _, _, ne_nil (one_sh fa _ (by omega)), _, rfl, ?_⟩
    rw [filt_nil]
    by_cases h3 : digB (fgs l) = true
    · rw [show (fgs l).all (fun c => decide (c ∈ figs.cps.toList)) = true from h3]
      refine ite_i (fun h => absurd (show (false : Bool) = true from h) (by decide)) fun _ => ?_
      have hn := is_num h1 h2 h3
      obtain ⟨d, r, er⟩ : ∃ d r, fgs l = d :: r := by
        cases e : fgs l with
        | nil => rw [e] at h1; exact absurd h1 (by decide)
        | cons d r => exact ⟨d, r, rfl⟩
      have ix : ixD (.str (tx (fgs l))) (.int 0) = some (.str (tx [d])) := by
        show (if (tx (fgs l)).length ≤ sizeLine then (L2.atI (tx (fgs l)).cps.toList 0).map (fun c => D.str ⟨#[c]⟩) else none) = _
        rw [if_pos (by rw [tx_len]; exact big_line (by omega)), tx_cps, er, show L2.atI (d :: r) 0 = some d from L2.atI_nat (j := 0) rfl]
        rfl
      have zb : zeroB l = (decide (d = 48) && !decide (l = [48])) := by
        unfold zeroB
        rw [er]
        congr 1
        simp
      refine ⟨_, rfl, _, ix, _, eqs_tx (b := [48]), _, rfl, ?_⟩
      have e48 : decide ([d] = [48]) = decide (d = 48) := by simp
      rw [e48]
      refine ite_i (fun h4 => ?_) fun h4 => ite_i (fun h => absurd (show (false : Bool) = true from h) (by decide)) fun _ => ?_
      · refine ⟨_, rfl, _, nes_tx (b := [48]), _, rfl, ite_i (fun h5 => ⟨Nat.zero_le _, no fun _ => ?_⟩) fun h5 => ?_⟩
        · rw [zb, h4, h5]
          rfl
        · have hz : zeroB l = false := by rw [zb, h5, Bool.and_false]
          rw [cellW_num ne hw hn hz] at q
          exact ⟨_, rfl, _, int_wordD hn (by omega), (by show 1 ≤ sizeLine; decide), q⟩
      · have hz : zeroB l = false := by rw [zb, h4, Bool.false_and]
        rw [cellW_num ne hw hn hz] at q
        exact ⟨_, rfl, _, int_wordD hn (by omega), (by show 1 ≤ sizeLine; decide), q⟩
    · have h3' : digB (fgs l) = false := Bool.eq_false_iff.mpr h3
      rw [show (fgs l).all (fun c => decide (c ∈ figs.cps.toList)) = false from h3']
      exact ite_i (fun _ => ⟨Nat.zero_le _, no (vac (not_num3 h3'))⟩) fun h => no_h h
  · have h2' : decide (((fgs l).length : Int) ≤ 15) = false := Bool.eq_false_iff.mpr h2
    rw [h2']
    exact ite_i (fun _ => ite_i (fun _ => ⟨Nat.zero_le _, no (vac (not_num2 h2'))⟩) fun h => no_h h) fun h => no_h h


end
end Law

namespace Law
open PySem PySem.Spec PyProof.Rows L2 Tk
section
variable {P : Program} {w : World} {K : PySem.W.Frag} {mg : Str → Option Value} {base : Heap}
/-! ## any text as a table, by both -/
def headsB (hs : List (List Nat)) : Bool := hs.all (fun h => wdB h 8) && (decide hs.Nodup && decide (hs.length ≤ 6))
def rowB (n : Nat) (l : List Nat) : Bool := (spS 32 l).all (fun w => !(cellW w).isEmpty) && decide ((spS 32 l).length = n)
def rowC (l : List Nat) : List D := (spS 32 l).flatMap cellW
def goRows (n : Nat) : Nat → List (List Nat) → Sum Nat (List (List D))
  | _, [] => .inr []
  | k, l :: ls => if rowB n l = true ∧ k ≤ 60 then (match goRows n (k + 1) ls with | .inl j => .inl j | .inr rs => .inr (rowC l :: rs)) else .inl k
def tableOf (l : List Nat) : Sum Nat (List (List Nat) × List (List D)) := match spS 10 l with
  | [] => .inl 0
  | h :: rest => if headsB (spS 32 h) = true then (match goRows (spS 32 h).length 1 rest with | .inl k => .inl k | .inr rs => .inr (spS 32 h, rs)) else .inl 0
def preR (rs : List (List D)) : Sum Nat (List (List D)) → Sum Nat (List (List D))
  | .inl k => .inl k
  | .inr xs => .inr (rs ++ xs)
theorem pre_go {n k : Nat} {l : List Nat} {ls : List (List Nat)} {rs : List (List D)} (h : rowB n l = true) (hk : k ≤ 60) : preR rs (goRows n k (l :: ls)) = preR (rs ++ [rowC l]) (goRows n (k + 1) ls) := by
  show preR rs (if rowB n l = true ∧ k ≤ 60 then _ else _) = _
  rw [if_pos ⟨h, hk⟩]
  cases goRows n (k + 1) ls with
  | inl j => rfl
  | inr xs => show Sum.inr (rs ++ rowC l :: xs) = Sum.inr (rs ++ [rowC l] ++ xs); simp
theorem go_no {n k : Nat} {l : List Nat} {ls : List (List Nat)} {rs : List (List D)} (h : ¬ (rowB n l = true ∧ k ≤ 60)) : preR rs (goRows n k (l :: ls)) = .inl k := by
  show preR rs (if rowB n l = true ∧ k ≤ 60 then _ else _) = _
  rw [if_neg h]
  rfl
theorem flat_len : ∀ ws : List (List Nat), (ws.flatMap cellW).length ≤ ws.length ∧ ((ws.flatMap cellW).length = ws.length ↔ ws.all (fun w => !(cellW w).isEmpty) = true)
  | [] => ⟨Nat.le_refl _, by simp⟩
  | w :: ws => by
    obtain ⟨a, b⟩ := flat_len ws
    rw [List.flatMap_cons, List.length_append, List.all_cons, List.length_cons, Bool.and_eq_true, ← b]
    rcases cellW_one w with e | ⟨d, e⟩
    · rw [e]
      simp only [List.length_nil, List.isEmpty_nil]
      refine ⟨by omega, ⟨fun h => by omega, fun h => by simp at h⟩⟩
    · rw [e]
      simp only [List.length_singleton, List.isEmpty_cons]
      refine ⟨by omega, ⟨fun h => ⟨rfl, by omega⟩, fun h => by omega⟩⟩
theorem wd_pos {w : List Nat} {m : Nat} (h : wdB w m = true) : 1 ≤ w.length := (wdB_let h).1
theorem heads_few {l : List Nat} (hl : l.length ≤ 7900) (h : (spS 32 l).all (fun w => wdB w 8) = true) : (spS 32 l).length ≤ 3950 := by
  have := words_few (s := 32) (l := l) fun y hy => wd_pos (List.all_eq_true.mp h y hy)
  omega
theorem nm_len (ys : List (List Nat)) : (nmD ys).length = ys.length := by unfold nmD; rw [List.length_map]
theorem ok_read_heads {f_read_heads : Addr} {fd_read_heads : FuncData} (D_read_heads : Df K mg "read_heads" st_read_heads ["row"] f_read_heads fd_read_heads)
    {f_is_name : Addr} {fd_is_name : FuncData} (D_is_name : Df K mg "is_name" st_is_name ["thing"] f_is_name fd_is_name)
    {f_is_word : Addr} {fd_is_word : FuncData} (D_is_word : Df K mg "is_word" st_is_word ["thing", "most"] f_is_word fd_is_word) (T : Tb mg) (W : Wo) [Free W] : FnG P w K mg base CX0 3 f_read_heads fd_read_heads ["row"] (spOf W fun ds ω Q => ∃ l : List Nat, ds = [.str (tx l)] ∧ l.length ≤ 7900 ∧ Q (.tup (if headsB (spS 32 l) = true then nmD (spS 32 l) else [])) ω) := by
  have G_is_name := ok_is_name (P := P) (w := w) (base := base) D_is_name D_is_word T W
  refine okD D_read_heads.F sc_read_heads (by rintro _ _ _ ⟨_, rfl, _⟩; rfl) ?_
  rintro cdv A outer s H E _ ω Q gd hr ⟨l, rfl, hl, q⟩
  have hu := hr.units
  refine ⟨_, (dss_cons (ds_set (i := 1) sc_read_heads.nd rfl (.inl rfl) (de_split (de_v 0) de_str))
    (dss_cons (ds_if (DW.dp (dw_or (dp_not (dp_val (de_f1 (f_all rfl) rfl T.all (by decide +kernel) (de_lc (own := [("head", 2)]) rfl sc_read_heads.nd (di_list (de_v 1)) (blkOk_by (own := [("head", 2)]) (N := ["row", "heads", "head"]) (sc := defScope st_read_heads) (by decide +kernel)) (gf_name 2) (fun _ _ _ _ _ => (pg_name (i := 2) sc_read_heads.nd rfl (.inl rfl))) ts_nil (fun _ _ _ _ _ => (de_cl G_is_name gd (hr.mono (by decide)) rfl D_is_name.m D_is_name.F.kp D_is_name.b .nil .nil (dl_cons (de_v 2) dl_nil))))))) (dw_or1 (dp_cmp o_lt (de_lenS rfl T.len (by decide +kernel) (de_sc hu (own := [("head", 2)]) rfl sc_read_heads.nd (di_list (de_v 1)) (blkOk_by (own := [("head", 2)]) (N := ["row", "heads", "head"]) (sc := defScope st_read_heads) (by decide +kernel)) (gf_name 2) (fun _ _ _ _ _ => (pg_name (i := 2) sc_read_heads.nd rfl (.inl rfl))) ts_nil (fun _ _ _ _ _ => (de_v 2)))) (de_f1 f_len rfl T.len (by decide +kernel) (de_v 1)) (nomark _))))) (dss_one (ds_ret (de_tup dl_nil))) dss_nil)
    (dss_one (ds_ret (de_if (dp_cmp o_le (de_f1 f_len rfl T.len (by decide +kernel) (de_v 1)) (de_gI rfl T.c_MOST_COLUMNS) (nomark _)) (de_f1T f_tuple rfl T.tuple (by decide +kernel) (de_v 1)) (de_tup dl_nil)))))), ?_⟩
  have sp := split_txB (s := 32) (l := l) (by decide) (by omega)
  have wl := spS_len 32 l
  refine ⟨_, rfl, ⟨_, _, sp⟩, _, sp, ?_⟩
  refine ⟨_, rfl, _, rfl, lcW_mapf (fun y => D.str (tx y)) (fun y => D.bl (wdB y 8)) _ _ (fun y hy => ⟨_, rfl, fun ω Q q => ⟨_, rfl, y, rfl, ?_, q⟩⟩) (big_line (by show 0 + _ ≤ 20000; omega)) ?_⟩
  · have := (spS_mem hy).1
    omega
  refine ⟨_, allD_map (fun y => wdB y 8) (spS 32 l), _, rfl, ?_⟩
  cases ha : (spS 32 l).all (fun y => wdB y 8) with
  | false =>
    have e : headsB (spS 32 l) = false := by unfold headsB; rw [ha]; rfl
    rw [e] at q
    exact ite_i (fun _ => ite_i (fun _ => ⟨Nat.zero_le _, q⟩) fun h => no_h h) fun h => no_h h
  | true =>
    refine ite_i (fun h => absurd (show (false : Bool) = true from h) (by decide)) fun _ => ?_
    have few := heads_few hl ha
    refine ⟨_, rfl, _, rfl, scW_map (fun y => D.str (tx y)) (fun y => some (.inr (tx y))) _ _ (fun y hy => ⟨rfl, _, rfl, fun ω Q q => ⟨_, rfl, q⟩⟩) ?_ ?_⟩
    · show 0 + _ < 4096
      omega
    refine ⟨_, rfl, _, rfl, _, rfl, _, rfl, _, rfl, ?_⟩
    have lk := addKs_len ((spS 32 l).map fun y => (some (.inr (tx y)) : Option Key)) []
    have li := (addKs_iff ((spS 32 l).map fun y => (some (.inr (tx y)) : Option Key))).trans key_inj
    simp only [List.length_map, List.length_nil] at lk li
    by_cases nd : (spS 32 l).Nodup
    · have e1 := li.mpr nd
      refine ite_i (fun h => ?_) fun _ => ?_
      · have h' := of_decide_eq_true h
        rw [nm_len] at h'
        omega
      refine ⟨_, rfl, _, rfl, _, rfl, _, rfl, ?_⟩
      refine ite_i (fun h => ?_) fun h => ?_
      · have h6 : (spS 32 l).length ≤ 6 := by
          have h' := of_decide_eq_true h
          rw [nm_len] at h'
          omega
        have e : headsB (spS 32 l) = true := by unfold headsB; rw [ha, decide_eq_true nd, decide_eq_true h6]; rfl
        rw [e] at q
        exact ⟨_, rfl, _, rfl, q⟩
      · have h6 : ¬ (spS 32 l).length ≤ 6 := by
          have h' := of_decide_eq_false h
          rw [nm_len] at h'
          omega
        have e : headsB (spS 32 l) = false := by unfold headsB; rw [ha, decide_eq_true nd, decide_eq_false h6]; rfl
        rw [e] at q
        exact ⟨Nat.zero_le _, q⟩
    · have ne : (addKs [] ((spS 32 l).map fun y => (some (.inr (tx y)) : Option Key))).length ≠ (spS 32 l).length := fun z => nd (li.mp z)
      have e : headsB (spS 32 l) = false := by unfold headsB; rw [ha, decide_eq_false nd]; rfl
      rw [e] at q
      refine ite_i (fun _ => ⟨Nat.zero_le _, q⟩) fun h => ?_
      have h' := of_decide_eq_false h
      rw [nm_len] at h'
      omega
theorem ok_read_cells {f_read_cells : Addr} {fd_read_cells : FuncData} (D_read_cells : Df K mg "read_cells" st_read_cells ["row", "many"] f_read_cells fd_read_cells)
    {f_read_word : Addr} {fd_read_word : FuncData} (D_read_word : Df K mg "read_word" st_read_word ["word"] f_read_word fd_read_word)
    {f_is_word : Addr} {fd_is_word : FuncData} (D_is_word : Df K mg "is_word" st_is_word ["thing", "most"] f_is_word fd_is_word) (T : Tb mg) (W : Wo) [Free W] : FnG P w K mg base CX0 3 f_read_cells fd_read_cells ["row", "many"] (spOf W fun ds ω Q => ∃ (l : List Nat) (n : Nat), ds = [.str (tx l), .int (n : Int)] ∧ l.length ≤ 7900 ∧ Q (.tup (if rowB n l = true then rowC l else [])) ω) := by
  have G_read_word := ok_read_word (P := P) (w := w) (base := base) D_read_word D_is_word T W
  refine okD D_read_cells.F sc_read_cells (by rintro _ _ _ ⟨_, _, rfl, _⟩; rfl) ?_
  rintro cdv A outer s H E _ ω Q gd hr ⟨l, n, rfl, hl, q⟩
  have hu := hr.units
  refine ⟨_, (dss_cons (ds_ownLc2 (i := 2) (own := [("word", 3), ("cell", 4)]) (vs1 := [4]) rfl sc_read_cells.nd rfl rfl (sw_true rfl rfl rfl (by decide +kernel)) (di_list (de_split (de_v 0) de_str)) (blkOk_by (own := [("word", 3), ("cell", 4)]) (N := ["row", "many", "found", "word", "cell"]) (sc := defScope st_read_cells) (by decide +kernel)) (by decide) (gf_nameIn 3 (by decide)) (gf_name 4) (fun _ _ _ _ _ => (pg_name (i := 3) sc_read_cells.nd rfl (.inl rfl))) (fun _ _ _ _ _ => (pg_name (i := 4) sc_read_cells.nd rfl (.inl rfl))) ts_nil ts_nil (bi_tup fun _ _ _ _ _ => (de_cl G_read_word gd (hr.mono (by decide)) rfl D_read_word.m D_read_word.F.kp D_read_word.b .nil .nil (dl_cons (de_v 3) dl_nil))) (fun _ _ _ _ _ => (de_v 4)))
    (dss_one (ds_ret (de_if (dp_ch (o_eq2 hu) (o_eq2 hu) (de_f1 f_len rfl T.len (by decide +kernel) (db_o 2)) (de_f1 f_len rfl T.len (by decide +kernel) (de_split (de_v 0) de_str)) (de_v 1)) (de_f1T f_tuple rfl T.tuple (by decide +kernel) (db_o 2)) (de_tup dl_nil))))), ?_⟩
  have sp := split_txB (s := 32) (l := l) (by decide) (by omega)
  have wl := spS_len 32 l
  refine ⟨_, rfl, ⟨_, _, sp⟩, _, sp, _, rfl, lcW2_mapf (fun y => D.str (tx y)) cellW 1 _ _ (fun y hy => ⟨_, rfl, rfl, ?_, fun acc ω Q hl q => ?_⟩) (Nat.le_trans (show 0 + (spS 32 l).length * 1 + 1 ≤ 20000 by omega) (by decide)) ⟨_, rfl, ?_⟩⟩
  · rcases cellW_one y with e | ⟨d, e⟩ <;> rw [e] <;> simp
  · have := (spS_mem hy).1
    refine ⟨_, rfl, y, rfl, by omega, ?_⟩
    rcases cellW_one y with e | ⟨d, e⟩
    · rw [e] at q ⊢
      rw [List.append_nil] at q
      exact ⟨_, rfl, q⟩
    · rw [e] at q ⊢
      exact ⟨_, rfl, _, rfl, _, rfl, hl, q⟩
  obtain ⟨f1, f2⟩ := flat_len (spS 32 l)
  rw [List.nil_append]
  refine .inl ⟨_, rfl, _, rfl, _, rfl, ⟨_, _, sp⟩, _, sp, _, rfl, _, eqi, ?_⟩
  rw [nm_len]
  refine ite_i (fun h => ⟨_, rfl, _, eqi, _, rfl, ?_⟩) fun h => ?_
  · have h1 := f2.mp (by have z := of_decide_eq_true h; omega)
    refine ite_i (fun h => ?_) fun h => ?_
    · have h2 : (spS 32 l).length = n := by have z := of_decide_eq_true h; omega
      have e : rowB n l = true := by unfold rowB; rw [h1, decide_eq_true h2]; rfl
      rw [e] at q
      exact .inl ⟨_, rfl, _, rfl, q⟩
    · have h2 : ¬ (spS 32 l).length = n := by have z := of_decide_eq_false h; omega
      have e : rowB n l = false := by unfold rowB; rw [decide_eq_false h2, Bool.and_false]
      rw [e] at q
      exact ⟨Nat.zero_le _, q⟩
  · have h1 := of_decide_eq_false h
    have e : rowB n l = false := by
      unfold rowB
      cases z : (spS 32 l).all (fun w => !(cellW w).isEmpty) with
      | false => rfl
      | true => exact absurd (f2.mpr z) (fun z' => h1 (by omega))
    rw [e] at q
    exact ⟨_, rfl, ite_i (fun h => absurd (show (false : Bool) = true from h) (by decide)) fun _ => ⟨Nat.zero_le _, q⟩⟩
theorem row_pos {n : Nat} {l : List Nat} (h : rowB n l = true) : (rowC l).length = n := by
  unfold rowB at h
  rw [Bool.and_eq_true, decide_eq_true_eq] at h
  have := (flat_len (spS 32 l)).2.mpr h.1
  unfold rowC
  omega
theorem rowC_pd {l : List Nat} (h : Asc l) : ∀ x ∈ rowC l, Pd 0 x := fun x hx => by
  obtain ⟨w, hw, hx⟩ := List.mem_flatMap.mp hx
  exact cellW_pd (fun c hc => h c ((spS_mem hw).2.1 c hc)) x hx
theorem heads_ne {l : List Nat} (h : headsB (spS 32 l) = true) : 1 ≤ (spS 32 l).length ∧ (spS 32 l).length ≤ 6 := by
  unfold headsB at h
  simp only [Bool.and_eq_true, decide_eq_true_eq] at h
  refine ⟨?_, h.2.2⟩
  cases e : spS 32 l with
  | nil => exact absurd e (spS_ne 32 l)
  | cons _ _ => simp
theorem eq_tup0 {xs : List D} {k : Nat} (h : ∀ x ∈ xs, Pd k x) (hk : k ≤ 60) : eqD2 (.tup xs) (.tup []) = some (.bl xs.isEmpty) := by
  rw [eq_shp ((Pd.tup h).shp (by omega)) rfl]
  cases xs <;> rfl


end
end Law

namespace Law
open PySem PySem.Spec PyProof.Rows L2 Tk
section
variable {P : Program} {w : World} {K : PySem.W.Frag} {mg : Str → Option Value} {base : Heap}
/-! ## read_table, of any text, of anything -/
theorem ok_read_table {C_Table : Addr} (T_Table : Tc_Table K mg C_Table)
    {C_NoText : Addr} (X_NoText : Xk P w K mg base "NoText" C_NoText "row")
    {f_read_table : Addr} {fd_read_table : FuncData} (D_read_table : Df K mg "read_table" st_read_table ["text"] f_read_table fd_read_table)
    {f_read_heads : Addr} {fd_read_heads : FuncData} (D_read_heads : Df K mg "read_heads" st_read_heads ["row"] f_read_heads fd_read_heads)
    {f_read_cells : Addr} {fd_read_cells : FuncData} (D_read_cells : Df K mg "read_cells" st_read_cells ["row", "many"] f_read_cells fd_read_cells)
    {f_read_word : Addr} {fd_read_word : FuncData} (D_read_word : Df K mg "read_word" st_read_word ["word"] f_read_word fd_read_word)
    {f_is_name : Addr} {fd_is_name : FuncData} (D_is_name : Df K mg "is_name" st_is_name ["thing"] f_is_name fd_is_name)
    {f_is_word : Addr} {fd_is_word : FuncData} (D_is_word : Df K mg "is_word" st_is_word ["thing", "most"] f_is_word fd_is_word)
    {E_Table_0 : Addr} {f_Table___init__ : Addr} {fd_Table___init__ : FuncData} (D_Table___init__ : Dk K mg "Table" C_Table "Table.__init__" st_Table___init__ ["self", "columns", "rows"] [V.ref E_Table_0] f_Table___init__ fd_Table___init__) (T : Tb mg) (W : Wo) [Free W] : FnG P w K mg base (L2.CX P w) 4 f_read_table fd_read_table ["text"]
    (spX W fun ds ω Q X0 => (∃ l : List Nat, ds = [.str (tx l)] ∧ l.length ≤ 7900 ∧ Asc l ∧ (match tableOf l with | .inl k => X0 C_NoText ["row"] [.int ((k : Nat) : Int)] ω | .inr p => p.2.length ≤ 60 → Q (tblD C_Table p.1 p.2) ω)) ∨ ∃ d, ds = [d] ∧ isObD d = false ∧ isI "str" d = false ∧ X0 C_NoText ["row"] [.int 0] ω) := by
  refine okX D_read_table.F sc_read_table (by rintro _ _ _ _ (⟨_, rfl, _⟩ | ⟨_, rfl, _⟩) <;> rfl) ?_
  rintro cdv A outer s H E dsx ω Q X0 b gd hr hS tk hp
  have G_read_heads := (ok_read_heads (P := P) (w := w) (base := base) D_read_heads D_is_name D_is_word T W).wb b
  have G_read_cells := (ok_read_cells (P := P) (w := w) (base := base) D_read_cells D_read_word D_is_word T W).wb b
  have G_Table___init__ := (ok_Table_init (P := P) (w := w) (base := base) T_Table D_Table___init__ T W).wbI b
  have hu := hr.units
  refine ⟨_, (dss_cons (ds_if (dp_not (dp_val (de_isi (T := "str") (by decide +kernel) rfl T.isinstance (de_v 0) rfl T.str (by decide +kernel)))) (dss_one (ds_raise rfl X_NoText.X (hr.mono (by decide)) tk rfl de_int)) dss_nil)
    (dss_cons (ds_rest (is := [1, 2]) (es' := [.Name "first" ⟨64, 4, 64, 9⟩, .Name "rest" ⟨64, 12, 64, 16⟩]) rfl (pgs_cons (pg_name (i := 1) sc_read_table.nd rfl (.inl rfl)) (pgs_cons (pg_name (i := 2) sc_read_table.nd rfl (.inl rfl)) pgs_nil)) (de_split (de_v 0) de_str))
    (dss_cons (ds_set (i := 3) sc_read_table.nd rfl (.inl rfl) (de_cl G_read_heads gd (hr.mono (by decide)) rfl D_read_heads.m D_read_heads.F.kp D_read_heads.b .nil .nil (dl_cons (de_v 1) dl_nil)))
    (dss_cons (ds_if (dp_cmp (o_eq2 hu) (de_v 3) (de_tup dl_nil) (nomark _)) (dss_one (ds_raise rfl X_NoText.X (hr.mono (by decide)) tk rfl de_int)) dss_nil)
    (dss_cons (ds_own (i := 4) sc_read_table.nd rfl (.inl rfl) (df_lst dl_nil))
    (dss_cons (ds_for hp rfl (di_en rfl T.enumerate (de_v 2) de_int) (gf_tup K [5, 6]) (pg_tup rfl (pgs_cons (pg_name (i := 5) sc_read_table.nd rfl (.inl rfl)) (pgs_cons (pg_name (i := 6) sc_read_table.nd rfl (.inl rfl)) pgs_nil)))
      (dss_cons (ds_set (i := 7) sc_read_table.nd rfl (.inl rfl) (de_cl G_read_cells gd (hr.mono (by decide)) rfl D_read_cells.m D_read_cells.F.kp D_read_cells.b .nil .nil (dl_cons (de_v 6) (dl_cons (de_f1 f_len rfl T.len (by decide +kernel) (de_v 3)) dl_nil))))
      (dss_cons (ds_if (DW.dp (dw_or (dp_cmp (o_eq2 hu) (de_v 7) (de_tup dl_nil) (nomark _)) (dw_or1 (dp_cmp o_gt (de_v 5) (de_gI rfl T.c_MOST_ROWS) (nomark _))))) (dss_one (ds_raise rfl X_NoText.X (hr.mono (by decide)) tk rfl (de_v 5))) dss_nil)
      (dss_one (ds_app (i := 4) rfl (.inl rfl) (de_v 7))))))
    (dss_one (ds_frz 4 (ds_ret (de_make G_Table___init__ gd (hr.mono (by decide)) D_Table___init__.M rfl D_Table___init__.m D_Table___init__.b .nil .nil (dl_cons (de_v 3) (dl_cons (de_v 4) dl_nil)))))))))))), ?_⟩
  rcases hS with ⟨l, rfl, hl, ha, q⟩ | ⟨d, rfl, ho, hd, q⟩
  · obtain ⟨h, rest, e⟩ : ∃ h rest, spS 10 l = h :: rest := by
      cases e : spS 10 l with
      | nil => exact absurd e (spS_ne 10 l)
      | cons h rest => exact ⟨h, rest, rfl⟩
    have sp := split_txB (s := 10) (l := l) (by decide) (by omega)
    rw [e] at sp
    have lh : h.length ≤ 7900 ∧ Asc h := by
      obtain ⟨a, b, _⟩ := spS_mem (s := 10) (l := l) (y := h) (by rw [e]; exact List.mem_cons_self ..)
      exact ⟨by omega, fun c hc => ha c (b c hc)⟩
    have lr : ∀ y ∈ rest, y.length ≤ 7900 ∧ Asc y := fun y hy => by
      obtain ⟨a, b, _⟩ := spS_mem (s := 10) (l := l) (y := y) (by rw [e]; exact List.mem_cons_of_mem _ hy)
      exact ⟨by omega, fun c hc => ha c (b c hc)⟩
    have lenr : rest.length ≤ 7900 := by
      have := spS_len 10 l
      rw [e, List.length_cons] at this
      omega
    refine ⟨_, rfl, rfl, _, rfl, ite_i (fun h => absurd (show (false : Bool) = true from h) (by decide)) fun _ => ?_⟩
    refine ⟨_, rfl, ⟨_, _, sp⟩, _, sp, _, rfl, Nat.succ_le_succ (Nat.succ_le_succ (Nat.zero_le _)), by decide, ?_⟩
    refine ⟨_, rfl, h, rfl, lh.1, ?_⟩
    cases hb : headsB (spS 32 h) with
    | false =>
      have eT : tableOf l = .inl 0 := by
        unfold tableOf
        rw [e]
        show (if headsB (spS 32 h) = true then _ else _) = _
        rw [if_neg (by rw [hb]; decide)]
      rw [eT] at q
      rw [if_neg (by decide)]
      have e0 : eqD2 (.tup []) (.tup []) = some (.bl true) := eq_tup0 (k := 0) (fun x hx => by cases hx) (by decide)
      exact ⟨_, rfl, Nat.zero_le _, _, e0, _, rfl, ite_i (fun _ => q) fun h => no_h h⟩
    | true =>
      rw [if_pos rfl]
      obtain ⟨n1, n6⟩ := heads_ne hb
      have eT : tableOf l = (match goRows (spS 32 h).length 1 rest with | .inl k => .inl k | .inr rs => .inr (spS 32 h, rs)) := by
        unfold tableOf
        rw [e]
        show (if headsB (spS 32 h) = true then _ else _) = _
        rw [if_pos hb] <;> cases goRows (spS 32 h).length 1 rest <;> rfl
      have ne : (nmD (spS 32 h)).isEmpty = false := by
        cases z : spS 32 h with
        | nil => rw [z] at n1; exact absurd n1 (by decide)
        | cons _ _ => rfl
      have e0 : eqD2 (.tup (nmD (spS 32 h))) (.tup []) = some (.bl false) := by
        rw [eq_tup0 (k := 0) (fun x hx => ?_) (by decide), ne]
        obtain ⟨y, hy, rfl⟩ := List.mem_map.mp hx
        exact .str fun c hc => lh.2 c ((spS_mem hy).2.1 c hc)
      refine ⟨_, rfl, Nat.zero_le _, _, e0, _, rfl, ite_i (fun h => absurd h (by decide)) fun _ => ?_⟩
      refine ⟨Nat.zero_le _, _, rfl, _, 1, rfl, rfl, by decide, by decide, forW_inv (W := W.wb b) (fun i ρ ω' => ω' = ω ∧ ∃ rs b5 b6 b7, rs.length = i ∧ i ≤ 60 ∧ preR rs (goRows (spS 32 h).length (1 + i) (rest.drop i)) = goRows (spS 32 h).length 1 rest ∧ ρ = [some (.d (.str (tx l))), some (.d (.str (tx h))), some (.d (.lst (nmD rest))), some (.d (.tup (nmD (spS 32 h)))), some (.own (rs.map D.tup)), b5, b6, b7]) _ (i := 0) ⟨rfl, [], _, _, _, rfl, Nat.zero_le _, ?_, rfl⟩ ?_ ?_⟩
      · show preR [] (goRows _ 1 rest) = _
        cases goRows (spS 32 h).length 1 rest <;> rfl
      · rintro j x ρ ω' hx ⟨rfl, rs, b5, b6, b7, hj0, hj60, hg, rfl⟩
        rw [Nat.zero_add] at hj0 hg hj60
        have hx : (enD 1 (nmD rest))[j]? = some x := hx
        have hj : j < rest.length := by
          have := (List.getElem?_eq_some_iff.mp hx).1
          rw [enD_len] at this
          unfold nmD at this
          rwa [List.length_map] at this
        rw [enD_at] at hx
        unfold nmD at hx
        rw [List.getElem?_map, List.getElem?_eq_getElem hj] at hx
        cases hx
        have hd : rest.drop j = rest[j] :: rest.drop (j + 1) := List.drop_eq_getElem_cons hj
        rw [hd] at hg
        obtain ⟨ly, la⟩ := lr _ (List.getElem_mem hj)
        refine ⟨_, rfl, fun nx hnx => ?_⟩
        refine ⟨_, rfl, _, rfl, _, rfl, rest[j], (spS 32 h).length, by rw [nm_len]; rfl, ly, ?_⟩
        have fail : ¬ (rowB (spS 32 h).length rest[j] = true ∧ 1 + j ≤ 60) → X0 C_NoText ["row"] [.int (1 + (j : Int))] ω' := fun z => by
          rw [go_no z] at hg
          rw [eT, ← hg] at q
          exact q
        cases hr2 : rowB (spS 32 h).length rest[j] with
        | false =>
          rw [if_neg (by decide)]
          have e1 : eqD2 (.tup []) (.tup []) = some (.bl true) := eq_tup0 (k := 0) (fun x hx => by cases hx) (by decide)
          refine ⟨_, rfl, Nat.zero_le _, _, e1, _, rfl, ite_i (fun _ => ite_i (fun _ => ⟨_, rfl, fail fun z => ?_⟩) fun h => no_h h) fun h => no_h h⟩
          rw [hr2] at z
          exact absurd z.1 (by decide)
        | true =>
          rw [if_pos rfl]
          have rp := row_pos hr2
          have ne2 : (rowC rest[j]).isEmpty = false := by
            cases z : rowC rest[j] with
            | nil => rw [z] at rp; simp at rp; omega
            | cons _ _ => rfl
          have e1 : eqD2 (.tup (rowC rest[j])) (.tup []) = some (.bl false) := by rw [eq_tup0 (rowC_pd la) (by decide), ne2]
          refine ⟨_, rfl, Nat.zero_le _, _, e1, _, rfl, ite_i (fun h => absurd h (by decide)) fun _ => ⟨_, rfl, _, rfl, _, rfl, ite_i (fun h6 => ?_) fun h6 => ?_⟩⟩
          · have h6' := of_decide_eq_true h6
            exact ⟨_, rfl, fail fun z => by omega⟩
          · have h6' := of_decide_eq_false h6
            rw [pre_go hr2 (by omega)] at hg
            refine ⟨_, rfl, _, rfl, ?_, hnx _ _ ⟨rfl, rs ++ [rowC rest[j]], some (.d (.int (1 + (j : Int)))), some (.d (.str (tx rest[j]))), some (.d (.tup (rowC rest[j]))), ?_, ?_, ?_, ?_⟩⟩
            · rw [List.length_map]
              have := size_big
              omega
            · rw [List.length_append, List.length_singleton]; omega
            · omega
            · rw [← hg, Nat.zero_add, Nat.add_assoc]
            · rw [List.map_append]
              rfl
      rintro ρ _ ⟨rfl, rs, b5, b6, b7, hj0, hj60, hg, rfl⟩
      have ei : (enD 1 (List.drop ([1, 2].length - 1) (nmD (h :: rest)))).length = rest.length := by
        rw [enD_len]
        show (nmD rest).length = _
        rw [nm_len]
      rw [Nat.zero_add, ei] at hj0 hg hj60
      rw [List.drop_length] at hg
      have hg' : goRows (spS 32 h).length 1 rest = .inr rs := by
        rw [← hg]
        show Sum.inr (rs ++ []) = _
        rw [List.append_nil]
      rw [eT, hg'] at q
      exact .inl ⟨_, rfl, _, rfl, _, rfl, spS 32 h, rs, rfl, by omega, q (by show rs.length ≤ 60; omega)⟩
  · refine ⟨_, rfl, ho, _, rfl, ite_i (fun _ => q) fun h => ?_⟩
    rw [hd] at h
    exact no_h h


end
end Law

namespace Law
open PySem PySem.Spec PyProof.Rows L2 Tk
section
variable {P : Program} {w : World} {K : PySem.W.Frag} {mg : Str → Option Value} {base : Heap}
/-! ## the law's own reading -/
theorem ok_l_written {f_l_written : Addr} {fd_l_written : FuncData} (D_l_written : Df K mg "_law_written" st_l_written ["_law_thing"] f_l_written fd_l_written) (T : Tb mg) (W : Wo) [Free W] : FnG P w K mg base CX0 1 f_l_written fd_l_written ["_law_thing"] (spOf W fun ds ω Q => ∃ d, ds = [d] ∧ cellD d = true ∧ Q (.str (tx (wrL d))) ω) := by
  have G_l_written := FnG.no (P := P) (w := w) (K := K) (mg := mg) (base := base) (CX := CX0) (k := 0) (f := f_l_written) (fd := fd_l_written) (ps := ["_law_thing"]) (W := W)
  refine okD D_l_written.F sc_l_written (by rintro _ _ _ ⟨_, rfl, _⟩; rfl) ?_
  rintro cdv A outer s H E _ ω Q gd hr ⟨d, rfl, hd, q⟩
  refine ⟨_, (dss_cons (ds_if (dp_is (de_v 0)) (dss_one (ds_ret de_str)) dss_nil)
    (dss_cons (ds_if (dp_val (de_isi (T := "tuple") (by decide +kernel) rfl T.isinstance (de_v 0) rfl T.tuple (by decide +kernel))) (dss_one (ds_ret (de_op o_add (de_op o_add de_str (de_join de_str (de_lc (own := [("_law_part", 1)]) rfl sc_l_written.nd (di_tup (de_v 0)) (blkOk_by (own := [("_law_part", 1)]) (N := ["_law_thing", "_law_part"]) (sc := defScope st_l_written) (by decide +kernel)) (gf_name 1) (fun _ _ _ _ _ => (pg_name (i := 1) sc_l_written.nd rfl (.inl rfl))) ts_nil (fun _ _ _ _ _ => (de_cl G_l_written gd (hr.mono (by decide)) rfl D_l_written.m D_l_written.F.kp D_l_written.b .nil .nil (dl_cons (de_v 1) dl_nil)))))) de_str))) dss_nil)
    (dss_one (ds_ret (de_f1T f_str rfl T.str (by decide +kernel) (de_v 0)))))), ?_⟩
  cases d with
  | non => exact ⟨_, rfl, _, rfl, ite_i (fun _ => q) fun h => absurd h (by decide)⟩
  | int i => exact ⟨_, rfl, _, rfl, ite_i (fun h => absurd (show (false : Bool) = true from h) (by decide)) fun _ => ⟨_, rfl, rfl, _, rfl, ite_i (fun h => absurd (show (false : Bool) = true from h) (by decide)) fun _ => ⟨_, rfl, _, strD_int (num_nat hd), q⟩⟩⟩
  | str x => exact ⟨_, rfl, _, rfl, ite_i (fun h => absurd (show (false : Bool) = true from h) (by decide)) fun _ => ⟨_, rfl, rfl, _, rfl, ite_i (fun h => absurd (show (false : Bool) = true from h) (by decide)) fun _ => ⟨_, rfl, _, rfl, q⟩⟩⟩
  | _ => simp [cellD, numD, wordD, isN] at hd
def offN (d : D) : Bool := match d with | .str y => !wdB y.cps.toList 8 | _ => false
theorem filtN_nil : ∀ hs : List (List Nat), (([] : List D) ++ ((nmD hs).filter offN).map id).isEmpty = hs.all (fun h => wdB h 8)
  | [] => rfl
  | h :: hs => by
    have ih := filtN_nil hs
    rw [List.nil_append, List.map_id] at ih ⊢
    unfold nmD at ih ⊢
    rw [List.map_cons, List.all_cons, ← ih, List.filter_cons]
    have e : offN (.str (tx h)) = !wdB h 8 := rfl
    rw [e]
    cases wdB h 8 <;> rfl
theorem nei {a b : Int} : neD (.int a) (.int b) = some (.bl (!decide (a = b))) := by
  have e : neD (.int a) (.int b) = some (.bl (!eqv (.int a) (.int b))) := rfl
  rw [e]
  congr 2
theorem at_head {hs : List (List Nat)} {h : List Nat} : ixD (.lst (nmD (h :: hs))) (.int 0) = some (.str (tx h)) := L2.atI_nat (j := 0) rfl
theorem at_next {hs : List (List Nat)} {h : List Nat} {j : Nat} (hj : j < hs.length) : ixD (.lst (nmD (h :: hs))) (.int (1 + (j : Int))) = some (.str (tx hs[j])) := by
  have e : (1 + (j : Int)) = ((j + 1 : Nat) : Int) := by omega
  rw [e]
  refine L2.atI_nat ?_
  show (nmD hs)[j]? = _
  unfold nmD
  rw [List.getElem?_map, List.getElem?_eq_getElem hj]
  rfl
def headW (w : List Nat) : D := (cellW w).getD 0 .non
theorem heads_flat : ∀ ws : List (List Nat), ws.all (fun w => !(cellW w).isEmpty) = true → ws.map headW = ws.flatMap cellW
  | [], _ => rfl
  | w :: ws, h => by
    rw [List.all_cons, Bool.and_eq_true] at h
    rw [List.map_cons, List.flatMap_cons, heads_flat ws h.2]
    rcases cellW_one w with e | ⟨d, e⟩
    · rw [e] at h; exact absurd h.1 (by decide)
    · unfold headW
      rw [e]
      rfl
theorem ix_head {w : List Nat} (h : (cellW w).isEmpty = false) : ixD (.lst (cellW w)) (.int 0) = some (headW w) := by
  rcases cellW_one w with e | ⟨d, e⟩
  · rw [e] at h; cases h
  · unfold headW
    rw [e]
    exact L2.atI_nat (j := 0) rfl
def cellsD (ws : List (List Nat)) : List D := ws.map fun w => .lst (cellW w)
theorem in_cells {l : List Nat} (ha : Asc l) : inX (.lst []) (.lst (cellsD (spS 32 l))) = some (.bl (!(spS 32 l).all (fun w => !(cellW w).isEmpty))) := by
  have p : Pd 2 (.lst (cellsD (spS 32 l))) := .lst fun x hx => by
    obtain ⟨w, hw, rfl⟩ := List.mem_map.mp hx
    exact .lst (cellW_pd fun c hc => ha c ((spS_mem hw).2.1 c hc))
  show (if (shp (.lst []) && shp (.lst (cellsD (spS 32 l)))) = true then some (D.bl ((cellsD (spS 32 l)).any fun y => eqv y (.lst []))) else none) = _
  rw [if_pos (by rw [p.shp (by decide)]; rfl)]
  congr 2
  unfold cellsD
  rw [List.any_map]
  generalize spS 32 l = ws
  induction ws with
  | nil => rfl
  | cons w ws ih =>
    rw [List.any_cons, ih, List.all_cons, Bool.not_and]
    show (eqv (.lst (cellW w)) (.lst []) || _) = _
    rw [eqv_nil, Bool.not_not]
def resD : Sum Nat (List (List Nat) × List (List D)) → D
  | .inl k => .int ((k : Nat) : Int)
  | .inr p => .tup [.tup (nmD p.1), .lst (p.2.map D.tup)]
theorem ok_l_table_of {f_l_table_of : Addr} {fd_l_table_of : FuncData} (D_l_table_of : Df K mg "_law_table_of" st_l_table_of ["_law_text"] f_l_table_of fd_l_table_of)
    {f_l_is_name : Addr} {fd_l_is_name : FuncData} (D_l_is_name : Df K mg "_law_is_name" st_l_is_name ["_law_thing"] f_l_is_name fd_l_is_name)
    {f_l_letters : Addr} {fd_l_letters : FuncData} (D_l_letters : Df K mg "_law_letters" st_l_letters ["_law_thing", "_law_most"] f_l_letters fd_l_letters)
    {f_l_cell_of_word : Addr} {fd_l_cell_of_word : FuncData} (D_l_cell_of_word : Df K mg "_law_cell_of_word" st_l_cell_of_word ["_law_word"] f_l_cell_of_word fd_l_cell_of_word) (T : Tb mg) (W : Wo) [Free W] : FnG P w K mg base CX0 3 f_l_table_of fd_l_table_of ["_law_text"] (spOf W fun ds ω Q => ∃ l : List Nat, ds = [.str (tx l)] ∧ l.length ≤ 7900 ∧ Asc l ∧ Q (resD (tableOf l)) ω) := by
  have G_l_is_name := ok_l_is_name (P := P) (w := w) (base := base) D_l_is_name D_l_letters T W
  have G_l_cell_of_word := ok_l_cell_of_word (P := P) (w := w) (base := base) D_l_cell_of_word D_l_letters T W
  refine okD D_l_table_of.F sc_l_table_of (by rintro _ _ _ ⟨_, rfl, _⟩; rfl) ?_
  rintro cdv A outer s H E _ ω Q gd hr ⟨l, rfl, hl, ha, q⟩
  have hu := hr.units
  refine ⟨_, (dss_cons (ds_set (i := 1) sc_l_table_of.nd rfl (.inl rfl) (de_split (de_v 0) de_str))
    (dss_cons (ds_parDF (i := 2) (j := 3) rfl sc_l_table_of.nd rfl rfl (by decide) rfl rfl (de_f1T f_tuple rfl T.tuple (by decide +kernel) (de_split (de_ix (de_v 1) de_int) de_str)) (df_lst dl_nil) (by rfl))
    (dss_cons (ds_if (DW.dp (dw_or (dp_cmp (o_ne hu) (de_lc (own := [("_law_name", 6)]) rfl sc_l_table_of.nd (di_tup (de_v 2)) (blkOk_by (own := [("_law_name", 6)]) (N := ["_law_text", "_law_lines", "_law_columns_here", "_law_rows_here", "_law_at", "_law_cells", "_law_name", "_law_word", "_law_cell_here"]) (sc := defScope st_l_table_of) (by decide +kernel)) (gf_name 6) (fun _ _ _ _ _ => (pg_name (i := 6) sc_l_table_of.nd rfl (.inl rfl))) (ts_one fun _ _ _ _ _ => (dp_not (dp_val (de_cl G_l_is_name gd (hr.mono (by decide)) rfl D_l_is_name.m D_l_is_name.F.kp D_l_is_name.b .nil .nil (dl_cons (de_v 6) dl_nil))))) (fun _ _ _ _ _ => (de_v 6))) (de_lst dl_nil) (nomark _)) (dw_or1 (dp_cmp o_gt (de_f1 f_len rfl T.len (by decide +kernel) (de_v 2)) de_int (nomark _))))) (dss_one (ds_ret de_int)) dss_nil)
    (dss_cons (ds_if (dp_cmp (o_ne hu) (de_lenS rfl T.len (by decide +kernel) (de_setOf rfl rfl T.set (de_v 2))) (de_f1 f_len rfl T.len (by decide +kernel) (de_v 2)) (nomark _)) (dss_one (ds_ret de_int)) dss_nil)
    (dss_cons (ds_for PassesOwn.never rfl (di_rng2 rfl T.range de_int (de_f1 f_len rfl T.len (by decide +kernel) (de_v 1))) (gf_name 4) (pg_name (i := 4) sc_l_table_of.nd rfl (.inl rfl))
      (dss_cons (ds_frzLc 5 (ds_ownLc (i := 5) (own := [("_law_word", 7)]) rfl sc_l_table_of.nd rfl rfl (sw_true rfl rfl rfl (by decide +kernel)) (di_list (de_split (de_ix (de_v 1) (de_v 4)) de_str)) (blkOk_by (own := [("_law_word", 7)]) (N := ["_law_text", "_law_lines", "_law_columns_here", "_law_rows_here", "_law_at", "_law_cells", "_law_name", "_law_word", "_law_cell_here"]) (sc := defScope st_l_table_of) (by decide +kernel)) (gf_name 7) (fun _ _ _ _ _ => (pg_name (i := 7) sc_l_table_of.nd rfl (.inl rfl))) ts_nil (fun _ _ _ _ _ => (de_cl G_l_cell_of_word gd (hr.mono (by decide)) rfl D_l_cell_of_word.m D_l_cell_of_word.F.kp D_l_cell_of_word.b .nil .nil (dl_cons (de_v 7) dl_nil)))))
      (dss_cons (ds_if (DW.dp (dw_or (dp_cmp (o_inX (un65 hr)) (de_lst dl_nil) (de_v 5) (by rfl)) (dw_or (dp_cmp (o_ne hu) (de_f1 f_len rfl T.len (by decide +kernel) (de_v 5)) (de_f1 f_len rfl T.len (by decide +kernel) (de_v 2)) (nomark _)) (dw_or1 (dp_cmp o_gt (de_v 4) de_int (nomark _)))))) (dss_one (ds_ret (de_v 4))) dss_nil)
      (dss_one (ds_app (i := 3) rfl (.inl rfl) (de_f1T f_tuple rfl T.tuple (by decide +kernel) (de_lc (own := [("_law_cell_here", 8)]) rfl sc_l_table_of.nd (di_list (de_v 5)) (blkOk_by (own := [("_law_cell_here", 8)]) (N := ["_law_text", "_law_lines", "_law_columns_here", "_law_rows_here", "_law_at", "_law_cells", "_law_name", "_law_word", "_law_cell_here"]) (sc := defScope st_l_table_of) (by decide +kernel)) (gf_name 8) (fun _ _ _ _ _ => (pg_name (i := 8) sc_l_table_of.nd rfl (.inl rfl))) ts_nil (fun _ _ _ _ _ => (de_ix (de_v 8) de_int)))))))))
    (dss_one (ds_frz 3 (ds_ret (de_tup (dl_cons (de_v 2) (dl_cons (de_v 3) dl_nil))))))))))), ?_⟩
  obtain ⟨h, rest, e⟩ : ∃ h rest, spS 10 l = h :: rest := by
    cases e : spS 10 l with
    | nil => exact absurd e (spS_ne 10 l)
    | cons h rest => exact ⟨h, rest, rfl⟩
  have sp := split_txB (s := 10) (l := l) (by decide) (by omega)
  rw [e] at sp
  have lh : h.length ≤ 7900 ∧ Asc h := by
    obtain ⟨a, b, _⟩ := spS_mem (s := 10) (l := l) (y := h) (by rw [e]; exact List.mem_cons_self ..)
    exact ⟨by omega, fun c hc => ha c (b c hc)⟩
  have lr : ∀ y ∈ rest, y.length ≤ 7900 ∧ Asc y := fun y hy => by
    obtain ⟨a, b, _⟩ := spS_mem (s := 10) (l := l) (y := y) (by rw [e]; exact List.mem_cons_of_mem _ hy)
    exact ⟨by omega, fun c hc => ha c (b c hc)⟩
  have lenr : rest.length ≤ 7900 := by
    have := spS_len 10 l
    rw [e, List.length_cons] at this
    omega
  have sh := split_txB (s := 32) (l := h) (by decide) (by omega)
  have wh := spS_len 32 h
  have eF : headsB (spS 32 h) = false → tableOf l = .inl 0 := fun hb => by
    unfold tableOf
    rw [e]
    show (if headsB (spS 32 h) = true then _ else _) = _
    rw [if_neg (by rw [hb]; decide)]
  refine ⟨_, rfl, ⟨_, _, sp⟩, _, sp, ?_⟩
  refine ⟨_, rfl, _, at_head, ⟨_, _, sh⟩, _, sh, _, rfl, Nat.zero_le _, ?_⟩
  refine ⟨_, rfl, _, rfl, lcW_filter offN id _ _ (fun y hy => ?_) (by rw [nm_len]; exact big_line (by show 0 + _ ≤ 20000; omega)) ?_⟩
  · obtain ⟨w, hw, rfl⟩ := List.mem_map.mp hy
    refine ⟨_, rfl, fun ω Q q => ⟨_, rfl, w, rfl, ?_, _, rfl, q⟩, fun _ ω Q q => ⟨_, rfl, q⟩⟩
    have := (spS_mem hw).1
    omega
  have shN : shp (.lst (([] : List D) ++ ((nmD (spS 32 h)).filter offN).map id)) = true := (Pd.lst (k := 0) fun x hx => by
    rw [List.nil_append, List.map_id] at hx
    obtain ⟨w, hw, rfl⟩ := List.mem_map.mp (List.mem_filter.mp hx).1
    exact .str fun c hc => lh.2 c ((spS_mem hw).2.1 c hc)).shp (by decide)
  refine ⟨Nat.zero_le _, _, ne_nil shN, _, rfl, ?_⟩
  rw [filtN_nil]
  cases hall : (spS 32 h).all (fun y => wdB y 8) with
  | false =>
    rw [eF (by unfold headsB; rw [hall]; rfl)] at q
    exact ite_i (fun _ => ite_i (fun _ => q) fun h => no_h h) fun h => no_h h
  | true =>
    refine ite_i (fun h => absurd (show (false : Bool) = true from h) (by decide)) fun _ => ?_
    refine ⟨_, rfl, _, rfl, _, rfl, _, rfl, ?_⟩
    refine ite_i (fun h6 => ?_) fun h6 => ?_
    · have z : ¬ (spS 32 h).length ≤ 6 := by
        have z := of_decide_eq_true h6
        rw [nm_len] at z
        omega
      rw [eF (by unfold headsB; rw [hall, decide_eq_false z, Bool.and_false]; rfl)] at q
      exact q
    have l6 : (spS 32 h).length ≤ 6 := by
      have z := of_decide_eq_false h6
      rw [nm_len] at z
      omega
    have lk := addKs_iff ((spS 32 h).map fun y => (some (.inr (tx y)) : Option Key))
    rw [key_inj, List.length_map] at lk
    refine ⟨_, rfl, _, _, .inr rfl, plD_nm _, (by rw [List.length_map]; omega), _, rfl, _, rfl, _, rfl, _, nei, _, rfl, ?_⟩
    rw [nm_len]
    by_cases nd : (spS 32 h).Nodup
    · rw [lk.mpr nd, decide_eq_true rfl]
      refine ite_i (fun h => absurd (show (false : Bool) = true from h) (by decide)) fun _ => ?_
      have hb : headsB (spS 32 h) = true := by unfold headsB; rw [hall, decide_eq_true nd, decide_eq_true l6]; rfl
      have eT : tableOf l = (match goRows (spS 32 h).length 1 rest with | .inl k => .inl k | .inr rs => .inr (spS 32 h, rs)) := by
        unfold tableOf
        rw [e]
        show (if headsB (spS 32 h) = true then _ else _) = _
        rw [if_pos hb] <;> cases goRows (spS 32 h).length 1 rest <;> rfl
      refine ⟨_, rfl, _, rfl, 1, ((rest.length + 1 : Nat) : Int), rfl, (by rw [nm_len]; rfl), (by omega), ?_⟩
      have er : (((rest.length + 1 : Nat) : Int) - 1).toNat = rest.length := by omega
      rw [er]
      refine forW_inv (W := W) (fun i ρ ω' => ω' = ω ∧ ∃ rs b4 b5 b6 b7 b8, rs.length = i ∧ i ≤ 60 ∧ preR rs (goRows (spS 32 h).length (1 + i) (rest.drop i)) = goRows (spS 32 h).length 1 rest ∧ ρ = [some (.d (.str (tx l))), some (.d (.lst (nmD (h :: rest)))), some (.d (.tup (nmD (spS 32 h)))), some (.own (rs.map D.tup)), b4, b5, b6, b7, b8]) _ (i := 0) ⟨rfl, [], _, _, _, _, _, rfl, Nat.zero_le _, ?_, rfl⟩ ?_ ?_
      · show preR [] (goRows _ 1 rest) = _
        cases goRows (spS 32 h).length 1 rest <;> rfl
      · rintro j x ρ ω' hx ⟨rfl, rs, b4, b5, b6, b7, b8, hj0, hj60, hg, rfl⟩
        rw [Nat.zero_add] at hj0 hg hj60
        obtain ⟨hj, rfl⟩ := rngD_at hx
        have hd : rest.drop j = rest[j] :: rest.drop (j + 1) := List.drop_eq_getElem_cons hj
        rw [hd] at hg
        obtain ⟨ly, la⟩ := lr _ (List.getElem_mem hj)
        have sr := split_txB (s := 32) (l := rest[j]) (by decide) (by omega)
        have wr := spS_len 32 rest[j]
        have fail : ¬ (rowB (spS 32 h).length rest[j] = true ∧ 1 + j ≤ 60) → Q (.int (1 + (j : Int))) ω' := fun z => by
          rw [go_no z] at hg
          rw [eT, ← hg] at q
          exact q
        refine ⟨_, rfl, fun nx hnx => ?_⟩
        refine ⟨_, rfl, _, rfl, _, at_next hj, ⟨_, _, sr⟩, _, sr, _, rfl, lcW_mapf (fun y => D.str (tx y)) (fun y => D.lst (cellW y)) _ _ (fun y hy => ⟨_, rfl, fun ω Q q => ⟨_, rfl, y, rfl, ?_, ?_, q⟩⟩) (big_line (by show 0 + _ ≤ 20000; omega)) ⟨_, rfl, _, rfl, (by show 5 < 9; decide), ?_⟩⟩
        · have := (spS_mem hy).1
          omega
        · exact fun c hc => la c ((spS_mem hy).2.1 c hc)
        refine ⟨Nat.zero_le _, _, rfl, _, in_cells la, _, rfl, ?_⟩
        cases hall2 : (spS 32 rest[j]).all (fun w => !(cellW w).isEmpty) with
        | false =>
          refine ite_i (fun _ => ite_i (fun _ => ⟨_, rfl, fail fun z => ?_⟩) fun h => no_h h) fun h => no_h h
          have z1 := z.1
          unfold rowB at z1
          rw [hall2, Bool.false_and] at z1
          exact absurd z1 (by decide)
        | true =>
          refine ite_i (fun h => absurd (show (false : Bool) = true from h) (by decide)) fun _ => ?_
          refine ⟨_, rfl, _, rfl, _, rfl, _, rfl, _, nei, _, rfl, ?_⟩
          have lc : (([] : List D) ++ (spS 32 rest[j]).map (fun y => D.lst (cellW y))).length = (spS 32 rest[j]).length := by rw [List.nil_append, List.length_map]
          rw [lc, nm_len]
          by_cases hn : (spS 32 rest[j]).length = (spS 32 h).length
          · have hr2 : rowB (spS 32 h).length rest[j] = true := by unfold rowB; rw [hall2, decide_eq_true hn]; rfl
            rw [decide_eq_true (show ((spS 32 rest[j]).length : Int) = ((spS 32 h).length : Int) by omega)]
            refine ite_i (fun h => absurd (show (false : Bool) = true from h) (by decide)) fun _ => ?_
            refine ⟨_, rfl, _, rfl, _, rfl, ite_i (fun h6 => ?_) fun h6 => ?_⟩
            · have h6' := of_decide_eq_true h6
              exact ⟨_, rfl, fail fun z => by omega⟩
            · have h6' := of_decide_eq_false h6
              rw [pre_go hr2 (by omega)] at hg
              refine ⟨_, rfl, _, rfl, _, rfl, lcW_mapf (fun y => D.lst (cellW y)) headW _ _ (fun y hy => ⟨_, rfl, fun ω Q q => ⟨_, rfl, _, ix_head ?_, q⟩⟩) (big_line (by show 0 + _ ≤ 20000; omega)) ⟨_, rfl, ?_, hnx _ _ ⟨rfl, rs ++ [rowC rest[j]], some (.d (.int (1 + (j : Int)))), some (.d (.lst (([] : List D) ++ (spS 32 rest[j]).map (fun y => D.lst (cellW y))))), b6, b7, b8, ?_, ?_, ?_, ?_⟩⟩⟩
              · have := List.all_eq_true.mp hall2 y hy
                simpa using this
              · rw [List.length_map]
                have := size_big
                omega
              · rw [List.length_append, List.length_singleton]; omega
              · omega
              · rw [← hg, Nat.zero_add, Nat.add_assoc]
              · have ehf := heads_flat _ hall2
                rw [List.nil_append, ehf, List.map_append]
                rfl
          · rw [decide_eq_false (show ¬ ((spS 32 rest[j]).length : Int) = ((spS 32 h).length : Int) by omega)]
            refine ite_i (fun _ => ite_i (fun _ => ⟨_, rfl, fail fun z => ?_⟩) fun h => no_h h) fun h => no_h h
            have z1 := z.1
            unfold rowB at z1
            rw [decide_eq_false hn, Bool.and_false] at z1
            exact absurd z1 (by decide)
      rintro ρ _ ⟨rfl, rs, b4, b5, b6, b7, b8, hj0, hj60, hg, rfl⟩
      rw [Nat.zero_add, rngD_length] at hj0 hg hj60
      rw [List.drop_length] at hg
      have hg' : goRows (spS 32 h).length 1 rest = .inr rs := by
        rw [← hg]
        show Sum.inr (rs ++ []) = _
        rw [List.append_nil]
      rw [eT, hg'] at q
      exact .inl ⟨_, rfl, _, rfl, _, rfl, (by show 2 ≤ sizeLine; decide), q⟩
    · rw [decide_eq_false (fun z => nd (lk.mp (by omega)))]
      rw [eF (by unfold headsB; rw [hall, decide_eq_false nd]; rfl)] at q
      exact ite_i (fun _ => q) fun h => no_h h


end
end Law

namespace Law
open PySem PySem.Spec PyProof.Rows L2 Tk
section
variable {P : Program} {w : World} {K : PySem.W.Frag} {mg : Str → Option Value} {base : Heap}
/-! ## the law's own table text -/
theorem ok_l_table_text {f_l_table_text : Addr} {fd_l_table_text : FuncData} (D_l_table_text : Df K mg "_law_table_text" st_l_table_text ["_law_columns_here", "_law_rows_here"] f_l_table_text fd_l_table_text)
    {f_l_written : Addr} {fd_l_written : FuncData} (D_l_written : Df K mg "_law_written" st_l_written ["_law_thing"] f_l_written fd_l_written) (T : Tb mg) (W : Wo) [Free W] : FnG P w K mg base CX0 2 f_l_table_text fd_l_table_text ["_law_columns_here", "_law_rows_here"] (spOf W fun ds ω Q => ∃ hs rows, ds = [.tup (nmD hs), .lst (rows.map D.tup)] ∧ Nms hs ∧ hs.length ≤ 8 ∧ rowsOk hs.length rows ∧ rows.length ≤ 100 ∧ Q (.str (tx (tabL hs rows))) ω) := by
  have G_l_written := ok_l_written (P := P) (w := w) (base := base) D_l_written T W
  refine okD D_l_table_text.F sc_l_table_text (by rintro _ _ _ ⟨_, _, rfl, _⟩; rfl) ?_
  rintro cdv A outer s H E _ ω Q gd hr ⟨hs, rows, rfl, hn, hl, ok, h100, q⟩
  have hu := hr.units
  refine ⟨_, (dss_cons (ds_set (i := 2) sc_l_table_text.nd rfl (.inl rfl) (de_op o_add (de_lst (dl_cons (de_join de_str (de_v 0)) dl_nil)) (de_lc (own := [("_law_row", 3)]) rfl sc_l_table_text.nd (di_list (de_v 1)) (blkOk_by (own := [("_law_row", 3)]) (N := ["_law_columns_here", "_law_rows_here", "_law_lines", "_law_row", "_law_cell_here"]) (sc := defScope st_l_table_text) (by decide +kernel)) (gf_name 3) (fun _ _ _ _ _ => (pg_name (i := 3) sc_l_table_text.nd rfl (.inl rfl))) ts_nil (fun _ _ _ _ _ => (de_join de_str (de_lc (own := [("_law_cell_here", 4)]) rfl sc_l_table_text.nd (di_tup (de_v 3)) (blkOk_in (own := [("_law_cell_here", 4)]) (N := ["_law_columns_here", "_law_rows_here", "_law_lines", "_law_row", "_law_cell_here"]) (by decide +kernel)) (gf_name 4) (fun _ _ _ _ _ => (pg_name (i := 4) sc_l_table_text.nd rfl (.inl rfl))) ts_nil (fun _ _ _ _ _ => (de_cl G_l_written gd (hr.mono (by decide)) rfl D_l_written.m D_l_written.F.kp D_l_written.b .nil .nil (dl_cons (de_v 4) dl_nil)))))))))
    (dss_one (ds_ret (de_join de_str (de_v 2))))), ?_⟩
  have ea : addD (.lst [.str (tx (headL hs))]) (.lst (rows.map fun r => D.str (tx (rowL r)))) = some (.lst (nmD (linesL hs rows))) := by
    show (if _ then _ else _) = _
    rw [if_pos (by rw [List.length_map]; have := size_big; show 1 + rows.length ≤ sizeLine; omega)]
    unfold linesL nmD
    rw [List.map_cons, List.map_map]
    rfl
  refine ⟨⟨.lst [], _, rfl⟩, _, rfl, _, join_head hn hl, (by show 1 ≤ sizeLine; decide), _, rfl, _, rfl, lcW_mapf (fun r => D.tup r) (fun r => D.str (tx (rowL r))) _ _ (fun r hr => ?_) (line1000 (by show 0 + _ ≤ 1000; omega)) ?_⟩
  · obtain ⟨l, o⟩ := ok r hr
    refine ⟨_, rfl, fun ω Q q => ⟨⟨.lst [], _, rfl⟩, _, rfl, _, rfl, lcW_map (fun x => .str (tx (wrL x))) _ _ (fun x hx => ⟨_, rfl, fun ω Q q => ⟨_, rfl, x, rfl, o x hx, q⟩⟩) (line1000 (by show 0 + _ ≤ 1000; omega)) ⟨_, join_row o (by omega), q⟩⟩⟩
  exact ⟨_, ea, ⟨.lst [], _, rfl⟩, _, rfl, _, join_tab hn hl ok h100, q⟩

/-! ## texts spoilt at one place -/
theorem asc_app {a b : List Nat} (ha : Asc a) (hb : Asc b) : Asc (a ++ b) := fun c hc => (List.mem_append.mp hc).elim (ha c) (hb c)
theorem asc_take {a : List Nat} (n : Nat) (ha : Asc a) : Asc (a.take n) := fun c hc => ha c (List.mem_of_mem_take hc)
theorem asc_drop {a : List Nat} (n : Nat) (ha : Asc a) : Asc (a.drop n) := fun c hc => ha c (List.mem_of_mem_drop hc)
theorem asc_one {c : Nat} (h : c < 128) : Asc [c] := fun d hd => by rw [List.mem_singleton.mp hd]; exact h
def spoilS (p : Pn) (ds : List D) (t : Nat) (Q : D → Nat → Prop) : Prop := ∃ l : List Nat, ds = [.ob p, .str (tx l)] ∧ l.length ≤ 7800 ∧ Asc l ∧ t + 8 < 2 ^ 60 ∧
  ∀ (l' : List Nat) t', l'.length ≤ l.length + 1 → Asc l' → t' ≤ t + 5 → Q (.str (tx l')) t'
theorem ok_l_spoilt_text {f_l_spoilt_text : Addr} {fd_l_spoilt_text : FuncData} (D_l_spoilt_text : Df K mg "_law_spoilt_text" st_l_spoilt_text ["_law_pen_here", "_law_text"] f_l_spoilt_text fd_l_spoilt_text)
    {f_l_draw : Addr} {fd_l_draw : FuncData} (D_l_draw : Df K mg "_law_draw" st_l_draw ["_law_pen_here", "_law_many"] f_l_draw fd_l_draw)
    {f_l_pick : Addr} {fd_l_pick : FuncData} (D_l_pick : Df K mg "_law_pick" st_l_pick ["_law_pen_here", "_law_some"] f_l_pick fd_l_pick) (T : Tb mg) (p : Pn) :
    FnG P w K mg base CX0 3 f_l_spoilt_text fd_l_spoilt_text ["_law_pen_here", "_law_text"] (spOf (PenW p) (spoilS p)) := by
  have G_l_draw := ok_l_draw (P := P) (w := w) (base := base) D_l_draw T p
  have G_l_pick := ok_l_pick (P := P) (w := w) (base := base) D_l_pick T p D_l_draw
  refine okD D_l_spoilt_text.F sc_l_spoilt_text (by rintro _ _ _ ⟨_, rfl, _⟩; rfl) ?_
  rintro cdv A outer s H E _ (t : Nat) Q gd hr ⟨l, rfl, hl, ha, ht, q⟩
  have hu := hr.units
  refine ⟨_, (dss_cons (ds_set (i := 2) sc_l_spoilt_text.nd rfl (.inl rfl) de_str)
    (dss_cons (ds_set (i := 2) sc_l_spoilt_text.nd rfl (.inl rfl) (de_op o_add (de_op o_add (de_v 2) de_str) de_str))
    (dss_cons (ds_set (i := 3) sc_l_spoilt_text.nd rfl (.inl rfl) (de_cl G_l_draw gd (hr.mono (by decide)) rfl D_l_draw.m D_l_draw.F.kp D_l_draw.b .nil .nil (dl_cons (de_v 0) (dl_cons (de_op o_add (de_f1 f_len rfl T.len (by decide +kernel) (de_v 1)) de_int) dl_nil))))
    (dss_cons (ds_set (i := 4) sc_l_spoilt_text.nd rfl (.inl rfl) (de_cl G_l_pick gd (hr.mono (by decide)) rfl D_l_pick.m D_l_pick.F.kp D_l_pick.b .nil .nil (dl_cons (de_v 0) (dl_cons (de_v 2) dl_nil))))
    (dss_cons (ds_if (dp_cmp (o_eq2 hu) (de_cl G_l_draw gd (hr.mono (by decide)) rfl D_l_draw.m D_l_draw.F.kp D_l_draw.b .nil .nil (dl_cons (de_v 0) (dl_cons de_int dl_nil))) de_int (nomark _)) (dss_one (ds_set (i := 4) sc_l_spoilt_text.nd rfl (.inl rfl) (de_cl G_l_pick gd (hr.mono (by decide)) rfl D_l_pick.m D_l_pick.F.kp D_l_pick.b .nil .nil (dl_cons (de_v 0) (dl_cons de_str dl_nil))))) dss_nil)
    (dss_cons (ds_set (i := 5) sc_l_spoilt_text.nd rfl (.inl rfl) (de_cl G_l_draw gd (hr.mono (by decide)) rfl D_l_draw.m D_l_draw.F.kp D_l_draw.b .nil .nil (dl_cons (de_v 0) (dl_cons de_int dl_nil))))
    (dss_cons (ds_if (dp_cmp (o_eq2 hu) (de_v 5) de_int (nomark _)) (dss_one (ds_ret (de_op o_add (de_sl (de_v 1) do_no (do_some (de_v 3))) (de_sl (de_v 1) (do_some (de_op o_add (de_v 3) de_int)) do_no)))) dss_nil)
    (dss_cons (ds_if (dp_cmp (o_eq2 hu) (de_v 5) de_int (nomark _)) (dss_one (ds_ret (de_op o_add (de_op o_add (de_sl (de_v 1) do_no (do_some (de_v 3))) (de_sl (de_v 1) (do_some (de_v 3)) (do_some (de_op o_add (de_v 3) de_int)))) (de_sl (de_v 1) (do_some (de_v 3)) do_no)))) dss_nil)
    (dss_cons (ds_if (dp_cmp (o_eq2 hu) (de_v 5) de_int (nomark _)) (dss_one (ds_ret (de_op o_add (de_op o_add (de_sl (de_v 1) do_no (do_some (de_v 3))) (de_v 4)) (de_sl (de_v 1) (do_some (de_op o_add (de_v 3) de_int)) do_no)))) dss_nil)
    (dss_cons (ds_if (dp_cmp (o_eq2 hu) (de_v 5) de_int (nomark _)) (dss_one (ds_ret (de_op o_add (de_op o_add (de_sl (de_v 1) do_no (do_some (de_v 3))) (de_v 4)) (de_sl (de_v 1) (do_some (de_v 3)) do_no)))) dss_nil)
    (dss_cons (ds_set (i := 6) sc_l_spoilt_text.nd rfl (.inl rfl) (de_op o_add (de_sl (de_v 1) (do_some (de_op o_add (de_v 3) de_int)) (do_some (de_op o_add (de_v 3) de_int))) (de_sl (de_v 1) (do_some (de_v 3)) (do_some (de_op o_add (de_v 3) de_int)))))
    (dss_one (ds_ret (de_op o_add (de_op o_add (de_sl (de_v 1) do_no (do_some (de_v 3))) (de_v 6)) (de_sl (de_v 1) (do_some (de_op o_add (de_v 3) de_int)) do_no))))))))))))))), ?_⟩
  refine ⟨_, rfl, _, rfl, _, rfl, ?_⟩
  refine ⟨_, rfl, _, rfl, _, len_txB (by omega), _, rfl, (l.length : Int) + 1, rfl, by omega, by omega, by omega, fun k k0 k1 => ?_⟩
  obtain ⟨a, rfl⟩ : ∃ a : Nat, k = (a : Int) := ⟨k.toNat, by omega⟩
  refine ⟨_, rfl, _, rfl, _, _, rfl, .inr (.inr ⟨_, rfl, rfl⟩), by rw [signs_len]; decide +kernel, by rw [signs_len]; decide +kernel, by show t + 1 < 2 ^ 60; omega, fun x hx => ?_⟩
  obtain ⟨c0, rfl, hc0⟩ := signs_mem hx
  have hc0' : c0 < 128 := by
    have key : ∀ c ∈ (" !#$&'()*+,-./0123456789:;<=>?@ABCDEFGHIJKLMNOPQRSTUVWXYZ" ++ "[]^_`abcdefghijklmnopqrstuvwxyz{|}~\\\n" ++ "\"" : Str).cps.toList, c < 128 := by decide +kernel
    exact key c0 hc0
  dsimp only
  refine cutI (W := PenW p) (fun ρ' (t3 : Nat) => t3 ≤ t + 4 ∧ ∃ (c : Nat) (sg : D) (b5 b6 : Option Sl), c < 128 ∧
      ρ' = [some (.d (.ob p)), some (.d (.str (tx l))), some (.d sg), some (.d (.int (a : Int))), some (.d (.str (tx [c]))), b5, b6]) (fun nx' q' => ?_) ?_
  · refine ⟨_, rfl, 2, rfl, by decide, by decide, by show t + 1 + 1 < 2 ^ 60; omega, fun d d0 d1 => ⟨_, eqi, _, rfl, ite_i (fun _ => ?_) fun _ => q' _ _ ⟨by show t + 1 + 1 + 1 ≤ _; omega, c0, _, _, _, hc0', rfl⟩⟩⟩
    refine ⟨_, rfl, _, _, rfl, .inr (.inr ⟨_, rfl, rfl⟩), by rw [signs_len]; decide +kernel, by rw [signs_len]; decide +kernel, by show t + 1 + 1 + 1 < 2 ^ 60; omega, fun x hx => ?_⟩
    obtain ⟨c1, rfl, hc1⟩ := signs_mem hx
    have hc1' : c1 < 128 := by
      have key : ∀ c ∈ (" 0-1az()*=@:\n" : Str).cps.toList, c < 128 := by decide +kernel
      exact key c1 hc1
    exact q' _ _ ⟨by show t + 1 + 1 + 1 + 1 ≤ _; omega, c1, _, _, _, hc1', rfl⟩
  rintro _ (t3 : Nat) ⟨h3, c, sg, b5, b6, hc, rfl⟩
  have ea : ((a : Int) + 1) = ((a + 1 : Nat) : Int) := rfl
  have ea2 : ((a : Int) + 2) = ((a + 2 : Nat) : Int) := rfl
  have s0 := sl_toB (l := l) (n := a) (by omega)
  have s1 := sl_fromB (l := l) (n := a) (by omega)
  have s2 := sl_fromB (l := l) (n := a + 1) (by omega)
  have s3 := sl_midB (l := l) (a := a) (b := a + 1) (by omega)
  have s4 := sl_midB (l := l) (a := a + 1) (b := a + 2) (by omega)
  have s5 := sl_fromB (l := l) (n := a + 2) (by omega)
  have l0 : (l.take a).length ≤ a ∧ (l.take a).length ≤ l.length := by rw [List.length_take]; omega
  have l1 : (l.drop a).length = l.length - a := List.length_drop
  have l2 : (l.drop (a + 1)).length = l.length - (a + 1) := List.length_drop
  have l3 : ((l.take (a + 1)).drop a).length ≤ 1 := by rw [List.length_drop, List.length_take]; omega
  have l4 : ((l.take (a + 2)).drop (a + 1)).length ≤ 1 := by rw [List.length_drop, List.length_take]; omega
  have l5 : (l.drop (a + 2)).length = l.length - (a + 2) := List.length_drop
  have l34 : ((l.take (a + 1)).drop a).length = min (a + 1) l.length - a ∧ ((l.take (a + 2)).drop (a + 1)).length = min (a + 2) l.length - (a + 1) := ⟨by rw [List.length_drop, List.length_take], by rw [List.length_drop, List.length_take]⟩
  refine ⟨_, rfl, 5, rfl, by decide, by decide, by omega, fun wy w0 w5 => ?_⟩
  refine ⟨_, rfl, _, eqi, _, rfl, ite_i (fun _ => ?_) fun _ => ?_⟩
  · refine ⟨_, rfl, _, rfl, _, rfl, _, s0, _, rfl, _, rfl, _, rfl, _, rfl, _, s2, _, add_txB (by omega), q _ _ ?_ (asc_app (asc_take _ ha) (asc_drop _ ha)) (by show t3 + 1 ≤ _; omega)⟩
    rw [List.length_append]; omega
  refine ⟨_, rfl, _, eqi, _, rfl, ite_i (fun _ => ?_) fun _ => ?_⟩
  · refine ⟨_, rfl, _, rfl, _, rfl, _, s0, _, rfl, _, rfl, _, rfl, _, rfl, _, rfl, _, rfl, _, s3, _, add_txB (by omega), _, rfl, _, rfl, _, rfl, _, s1, _, add_txB (by rw [List.length_append]; omega), q _ _ ?_ (asc_app (asc_app (asc_take _ ha) (asc_drop _ (asc_take _ ha))) (asc_drop _ ha)) (by show t3 + 1 ≤ _; omega)⟩
    rw [List.length_append, List.length_append]; omega
  refine ⟨_, rfl, _, eqi, _, rfl, ite_i (fun _ => ?_) fun _ => ?_⟩
  · refine ⟨_, rfl, _, rfl, _, rfl, _, s0, _, rfl, _, add_txB (by show _ + 1 ≤ _; omega), _, rfl, _, rfl, _, rfl, _, rfl, _, s2, _, add_txB (by rw [List.length_append, List.length_singleton]; omega), q _ _ ?_ (asc_app (asc_app (asc_take _ ha) (asc_one hc)) (asc_drop _ ha)) (by show t3 + 1 ≤ _; omega)⟩
    rw [List.length_append, List.length_append, List.length_singleton]; omega
  refine ⟨_, rfl, _, eqi, _, rfl, ite_i (fun _ => ?_) fun _ => ?_⟩
  · refine ⟨_, rfl, _, rfl, _, rfl, _, s0, _, rfl, _, add_txB (by show _ + 1 ≤ _; omega), _, rfl, _, rfl, _, rfl, _, s1, _, add_txB (by rw [List.length_append, List.length_singleton]; omega), q _ _ ?_ (asc_app (asc_app (asc_take _ ha) (asc_one hc)) (asc_drop _ ha)) (by show t3 + 1 ≤ _; omega)⟩
    rw [List.length_append, List.length_append, List.length_singleton]; omega
  refine ⟨_, rfl, _, rfl, _, rfl, _, rfl, _, rfl, _, rfl, _, rfl, _, s4, _, rfl, _, rfl, _, rfl, _, rfl, _, rfl, _, rfl, _, s3, _, add_txB (by omega), ?_⟩
  refine ⟨_, rfl, _, rfl, _, rfl, _, s0, _, rfl, _, add_txB (by rw [List.length_append]; omega), _, rfl, _, rfl, _, rfl, _, rfl, _, s5, _, add_txB (by rw [List.length_append, List.length_append]; omega), q _ _ ?_ (asc_app (asc_app (asc_take _ ha) (asc_app (asc_drop _ (asc_take _ ha)) (asc_drop _ (asc_take _ ha)))) (asc_drop _ ha)) (by show t3 + 1 ≤ _; omega)⟩
  rw [List.length_append, List.length_append, List.length_append]; omega


end
end Law

namespace Law
open PySem PySem.Spec PyProof.Rows L2 Tk
section
variable {P : Program} {w : World} {K : PySem.W.Frag} {mg : Str → Option Value} {base : Heap}
/-! ## texts with rows turned -/
def LnOk (d : D) : Prop := ∃ y, d = .str (tx y) ∧ y.length ≤ 102 ∧ Asc y
theorem lns_nm : ∀ {ds : List D}, (∀ d ∈ ds, LnOk d) → ∃ ys, ds = nmD ys ∧ ys.length = ds.length ∧ ∀ y ∈ ys, y.length ≤ 102 ∧ Asc y
  | [], _ => ⟨[], rfl, rfl, fun _ h => absurd h List.not_mem_nil⟩
  | d :: ds, h => by
    obtain ⟨ys, e, hl, hy⟩ := lns_nm (ds := ds) fun x hx => h x (List.mem_cons_of_mem _ hx)
    obtain ⟨y, e1, h1, h2⟩ := h d (List.mem_cons_self ..)
    refine ⟨y :: ys, by rw [e, e1]; rfl, by rw [List.length_cons, List.length_cons, hl], fun z hz => ?_⟩
    rcases List.mem_cons.mp hz with rfl | hz
    · exact ⟨h1, h2⟩
    · exact hy z hz
def turnS (p : Pn) (ds : List D) (t : Nat) (Q : D → Nat → Prop) : Prop := ∃ l : List Nat, ds = [.ob p, .str (tx l)] ∧ l.length ≤ 7800 ∧ (∀ y ∈ spS 10 l, y.length ≤ 102 ∧ Asc y) ∧ (spS 10 l).length ≤ 63 ∧ t + 8 < 2 ^ 60 ∧
  ∀ (l' : List Nat) t', l'.length ≤ 6600 → Asc l' → t' ≤ t + 4 → Q (.str (tx l')) t'
theorem ok_l_rows_turned {f_l_rows_turned : Addr} {fd_l_rows_turned : FuncData} (D_l_rows_turned : Df K mg "_law_rows_turned" st_l_rows_turned ["_law_pen_here", "_law_text"] f_l_rows_turned fd_l_rows_turned)
    {f_l_draw : Addr} {fd_l_draw : FuncData} (D_l_draw : Df K mg "_law_draw" st_l_draw ["_law_pen_here", "_law_many"] f_l_draw fd_l_draw)
    {f_l_pick : Addr} {fd_l_pick : FuncData} (D_l_pick : Df K mg "_law_pick" st_l_pick ["_law_pen_here", "_law_some"] f_l_pick fd_l_pick) (T : Tb mg) (p : Pn) :
    FnG P w K mg base CX0 3 f_l_rows_turned fd_l_rows_turned ["_law_pen_here", "_law_text"] (spOf (PenW p) (turnS p)) := by
  have G_l_draw := ok_l_draw (P := P) (w := w) (base := base) D_l_draw T p
  have G_l_pick := ok_l_pick (P := P) (w := w) (base := base) D_l_pick T p D_l_draw
  refine okD D_l_rows_turned.F sc_l_rows_turned (by rintro _ _ _ ⟨_, rfl, _⟩; rfl) ?_
  rintro cdv A outer s H E _ (t : Nat) Q gd hr ⟨l, rfl, hl, hy, h63, ht, q⟩
  have hu := hr.units
  have hne := spS_ne 10 l
  refine ⟨_, (dss_cons (ds_own (i := 2) sc_l_rows_turned.nd rfl (.inl rfl) (df_split (de_v 1) de_str))
    (dss_cons (ds_par (i := 3) (j := 4) rfl sc_l_rows_turned.nd rfl rfl (by decide) rfl rfl (de_cl G_l_draw gd (hr.mono (by decide)) rfl D_l_draw.m D_l_draw.F.kp D_l_draw.b .nil .nil (dl_cons (de_v 0) (dl_cons (de_f1 f_len rfl T.len (by decide +kernel) (db_o 2)) dl_nil))) (de_cl G_l_draw gd (hr.mono (by decide)) rfl D_l_draw.m D_l_draw.F.kp D_l_draw.b .nil .nil (dl_cons (de_v 0) (dl_cons de_int dl_nil))) (by rfl))
    (dss_cons (ds_if (dp_cmp (o_eq2 hu) (de_v 4) de_int (nomark _)) (dss_one (ds_insPop (i := 2) rfl (.inl rfl) (de_cl G_l_draw gd (hr.mono (by decide)) rfl D_l_draw.m D_l_draw.F.kp D_l_draw.b .nil .nil (dl_cons (de_v 0) (dl_cons (de_f1 f_len rfl T.len (by decide +kernel) (db_o 2)) dl_nil))) (de_v 3))) (dss_one (ds_if (dp_cmp (o_eq2 hu) (de_v 4) de_int (nomark _)) (dss_one (ds_own (i := 2) sc_l_rows_turned.nd rfl (.inl rfl) (df_add (de_sl (db_o 2) do_no (do_some (de_v 3))) (de_sl (db_o 2) (do_some (de_op o_add (de_v 3) de_int)) do_no)))) (dss_one (ds_ins (i := 2) rfl (.inl rfl) (de_cl G_l_pick gd (hr.mono (by decide)) rfl D_l_pick.m D_l_pick.F.kp D_l_pick.b .nil .nil (dl_cons (de_v 0) (dl_cons (de_lst (dl_cons (de_v 3) (dl_cons (de_f1 f_len rfl T.len (by decide +kernel) (db_o 2)) dl_nil))) dl_nil))) (de_cl G_l_pick gd (hr.mono (by decide)) rfl D_l_pick.m D_l_pick.F.kp D_l_pick.b .nil .nil (dl_cons (de_v 0) (dl_cons (de_lst (dl_cons de_str (dl_cons (de_ix (db_o 2) (de_v 3)) (dl_cons de_str (dl_cons de_str (dl_cons de_str dl_nil)))))) dl_nil))))))))
    (dss_one (ds_ret (de_join de_str (db_o 2))))))), ?_⟩
  refine ⟨_, rfl, ⟨_, rfl⟩, _, tx [10], rfl, rfl, rfl, (by rw [tx_len]; exact Nat.le_trans (Nat.add_le_add_right hl 2) (by decide)), ?_⟩
  rw [split_raw (by decide)]
  generalize spS 10 l = ls at hne hy h63 ⊢
  have hpos : 0 < ls.length := List.length_pos_iff.mpr hne
  have nl : (nmD ls).length = ls.length := by unfold nmD; rw [List.length_map]
  have all0 : ∀ d ∈ nmD ls, LnOk d := fun d hd => by
    obtain ⟨y, hy', rfl⟩ := List.mem_map.mp hd
    exact ⟨y, rfl, hy y hy'⟩
  refine ⟨_, rfl, .inl ⟨_, rfl, _, rfl, (ls.length : Int), by rw [nl]; rfl, by omega, by omega, by omega, fun a a0 a1 => ?_⟩⟩
  obtain ⟨j, rfl⟩ : ∃ j : Nat, a = (j : Int) := ⟨a.toNat, by omega⟩
  have hj : j < ls.length := by omega
  refine ⟨_, rfl, 5, rfl, by decide, by decide, by show t + 1 < 2 ^ 60; omega, fun wy w0 w5 => ?_⟩
  dsimp only
  refine cutI (W := PenW p) (fun ρ' (t3 : Nat) => t3 ≤ t + 4 ∧ ∃ (ds : List D) (b3 b4 : Option Sl), ds.length ≤ 64 ∧ (∀ d ∈ ds, LnOk d) ∧
      ρ' = [some (.d (.ob p)), some (.d (.str (tx l))), some (.own ds), b3, b4]) (fun nx' q' => ?_) ?_
  · refine ⟨_, rfl, _, eqi, _, rfl, ite_i (fun _ => ?_) fun _ => ⟨_, rfl, _, eqi, _, rfl, ite_i (fun _ => ?_) fun _ => ?_⟩⟩
    · have gk : (nmD ls)[j]? = some (.str (tx ls[j])) := by unfold nmD; rw [List.getElem?_map, List.getElem?_eq_getElem hj]; rfl
      have lE : ((nmD ls).eraseIdx j).length ≤ ls.length := by rw [← nl]; exact List.length_eraseIdx_le ..
      refine ⟨_, rfl, _, rfl, .inl ⟨_, rfl, _, rfl, (ls.length : Int), by rw [nl]; rfl, by omega, by omega, by show t + 1 + 1 < 2 ^ 60; omega, fun g g0 g1 => ?_⟩⟩
      refine ⟨_, rfl, g, (j : Int), j, _, rfl, rfl, by omega, by omega, by rw [nl]; exact PySem.seqIndex_of (by omega) (by omega), gk, by rw [nl]; exact Nat.lt_of_le_of_lt h63 (by decide), g0, by omega, q' _ _ ⟨by show t + 1 + 1 + 1 ≤ _; omega, _, _, _, ?_, fun d hd => ?_, rfl⟩⟩
      · rw [List.length_append, List.length_append, List.length_take, List.length_drop, List.length_singleton]; omega
      · rcases List.mem_append.mp hd with h | h
        · rcases List.mem_append.mp h with h | h
          · exact all0 d (List.mem_of_mem_eraseIdx (List.mem_of_mem_take h))
          · rw [List.mem_singleton.mp h]; exact ⟨_, rfl, hy _ (List.getElem_mem hj)⟩
        · exact all0 d (List.mem_of_mem_eraseIdx (List.mem_of_mem_drop h))
    · refine .inl ⟨_, rfl, _, rfl, _, rfl, _, rfl, .inl ⟨_, rfl, _, rfl, _, rfl, _, rfl, _, rfl, _, _, rfl, rfl, ?_, q' _ _ ⟨by show t + 1 + 1 ≤ _; omega, _, _, _, ?_, fun d hd => ?_, rfl⟩⟩⟩
      · exact big_line (by
          unfold Tk.cutD
          rw [List.length_take, List.length_drop, List.length_take, List.length_drop, nl]
          omega)
      · have e1 : (Tk.cutD (nmD ls) none (some (j : Int))).length = min j ls.length := by
          unfold Tk.cutD
          rw [HT.sIx_none, HT.sIx_nat, List.length_take, List.length_drop, nl]
          omega
        have e2 : (Tk.cutD (nmD ls) (some ((j : Int) + 1)) none).length = ls.length - min (j + 1) ls.length := by
          unfold Tk.cutD
          rw [show ((j : Int) + 1) = ((j + 1 : Nat) : Int) from rfl, HT.sIx_none, HT.sIx_nat, List.length_take, List.length_drop, nl]
          omega
        rw [List.length_append, e1, e2]
        omega
      · have m : d ∈ nmD ls := by
          rcases List.mem_append.mp hd with h | h
          · unfold Tk.cutD at h
            exact List.mem_of_mem_drop (List.mem_of_mem_take h)
          · unfold Tk.cutD at h
            exact List.mem_of_mem_drop (List.mem_of_mem_take h)
        exact all0 d m
    · refine ⟨_, rfl, _, rfl, _, rfl, .inl ⟨_, rfl, _, rfl, (by show 2 ≤ sizeLine; decide), _, _, rfl, .inl rfl, by show 0 < 2; decide, by show 2 ≤ 1000; decide, by show t + 1 + 1 < 2 ^ 60; omega, fun x hx => ?_⟩⟩
      obtain ⟨g, rfl, g0, g1⟩ : ∃ g : Int, x = .int g ∧ 0 ≤ g ∧ g ≤ 63 := by
        rcases List.mem_cons.mp hx with rfl | hx
        · exact ⟨_, rfl, by omega, by omega⟩
        · rw [List.mem_singleton.mp hx]
          exact ⟨_, rfl, by omega, by rw [nl]; omega⟩
      refine ⟨_, rfl, .inl ⟨_, rfl, _, rfl, _, L2.atI_nat (j := j) (by unfold nmD; rw [List.getElem?_map, List.getElem?_eq_getElem hj]; rfl), (by show 5 ≤ sizeLine; decide), _, _, rfl, .inl rfl, by show 0 < 5; decide, by show 5 ≤ 1000; decide, by show t + 1 + 1 + 1 < 2 ^ 60; omega, fun x hx => ?_⟩⟩
      have okx : LnOk x := by
        rcases List.mem_cons.mp hx with rfl | hx
        · exact ⟨[], rfl, by decide, fun _ h => absurd h List.not_mem_nil⟩
        rcases List.mem_cons.mp hx with rfl | hx
        · exact ⟨_, rfl, hy _ (List.getElem_mem hj)⟩
        rcases List.mem_cons.mp hx with rfl | hx
        · exact ⟨[97], rfl, by decide, by decide⟩
        rcases List.mem_cons.mp hx with rfl | hx
        · exact ⟨[49, 32, 50], rfl, by decide, by decide⟩
        rw [List.mem_singleton.mp hx]
        exact ⟨[42, 32, 42], rfl, by decide, by decide⟩
      refine ⟨g, rfl, by rw [nl]; exact Nat.lt_of_le_of_lt h63 (by decide), g0, by omega, q' _ _ ⟨by show t + 1 + 1 + 1 + 1 ≤ _; omega, _, _, _, ?_, fun d hd => ?_, rfl⟩⟩
      · rw [List.length_append, List.length_append, List.length_take, List.length_drop, List.length_singleton, nl]; omega
      · rcases List.mem_append.mp hd with h | h
        · rcases List.mem_append.mp h with h | h
          · exact all0 d (List.mem_of_mem_take h)
          · rw [List.mem_singleton.mp h]; exact okx
        · exact all0 d (List.mem_of_mem_drop h)
  rintro _ (t3 : Nat) ⟨h3, ds, b3, b4, h64, okd, rfl⟩
  obtain ⟨ys, rfl, hl2, hys⟩ := lns_nm okd
  have ej : joinD (.str (tx [10])) (.lst (nmD ys)) = some (.str (tx (TL.joinL [10] ys))) := joinD_tx (m := 102) (fun y hy => (hys y hy).1) (Nat.le_trans (Nat.mul_le_mul_right _ (show ys.length ≤ 64 by omega)) (by decide))
  refine ⟨⟨.lst [], _, rfl⟩, .inl ⟨_, rfl, _, ej, q _ _ ?_ (joinL_mem (by decide) _ fun y hy => (hys y hy).2) h3⟩⟩
  have := joinL_len [10] 102 ys fun y hy => (hys y hy).1
  have e : ([10] : List Nat).length = 1 := rfl
  rw [e] at this
  omega


end
end Law

namespace Law
open PySem PySem.Spec PyProof.Rows L2 Tk
section
variable {P : Program} {w : World} {K : PySem.W.Frag} {mg : Str → Option Value} {base : Heap}
/-! ## the def that calls what it got -/
theorem gives_l_refused_row {X : Cx} {W0 : Wo} {P0 : Addr} {q0 : Str} {g C : Addr} {cdg : Value} (b0 : Bond) (XT : Xk X.prog X.w X.K X.mg X.base "NoText" C "row") (T : Tb X.mg) :
    GivesD X ((TabW W0 P0 q0).wb b0) ["_law_call", "_law_kept", "e"] "_law_refused_row" (defScope st_l_refused_row) g cdg (defBody st_l_refused_row) "_law_call" (TTrow (W := W0) C "row") := by
  intro f s H ω Q act hact h
  refine ⟨_, dss_cons (ds_set (i := 1) sc_l_refused_row.nd rfl (.inl rfl) de_non) (dss_cons (ds_try (i := 2) (n := "e") (x := "NoText") rfl rfl sc_l_refused_row.nd rfl rfl ⟨rfl, by decide, .inl XT.X.m⟩ takesN rfl rfl (fun b q' pn xe tk hp => dss_one (ds_expr (hact b q' pn xe _ _ tk))) (fun a pn => dss_one (ds_set (i := 1) sc_l_refused_row.nd rfl (.inl rfl) (de_v 2))))
    (dss_one (ds_ret (de_if (dp_is (de_v 1)) de_non (de_tup (dl_cons de_str (dl_cons (de_xf XT.xf XT.no (de_v 1)) (dl_cons (de_isX (T := "ValueError") rfl T.isinstance (de_v 1) rfl T.ValueError (by rfl) (by decide) XT.ec XT.ve) dl_nil)))))))), ?_⟩
  intro b
  refine ⟨rfl, h _ _ (fun d ω' hq => ?_) fun d ω' hq => ?_⟩
  · exact ⟨_, rfl, _, rfl, ite_i (fun _ => hq) fun z => absurd z (by decide)⟩
  · refine ⟨true, XT.me, fun _ => ?_, fun z => by cases z⟩
    exact ⟨_, rfl, _, rfl, _, rfl, ite_i (fun z => absurd (show (false : Bool) = true from z) (by decide)) fun _ => ⟨_, rfl, _, _, d, rfl, rfl, _, rfl, _, _, rfl, (by show 3 ≤ sizeLine; decide), hq⟩⟩


end
end Law

namespace Law
open PySem PySem.Spec PyProof.Rows L2 Tk
section
variable {P : Program} {w : World} {K : PySem.W.Frag} {mg : Str → Option Value} {base : Heap}
/-! ## what the law hands to its parts -/
theorem nm_inj : ∀ {a b : List (List Nat)}, nmD a = nmD b → a = b
  | [], [], _ => rfl
  | [], _ :: _, h => by unfold nmD at h; cases h
  | _ :: _, [], h => by unfold nmD at h; cases h
  | x :: a, y :: b, h => by
    have h' : D.str (tx x) :: nmD a = D.str (tx y) :: nmD b := h
    obtain ⟨h1, h2⟩ := List.cons.inj h'
    rw [tx_inj (D.str.inj h1), nm_inj h2]
theorem spS_join {ys : List (List Nat)} (hne : ys ≠ []) (hp : ∀ y ∈ ys, 10 ∉ y) (hl : (TL.joinL [10] ys).length ≤ 20000) : spS 10 (TL.joinL [10] ys) = ys := by
  have a := splitD_tx (s := 10) (by decide) hne hp (Nat.le_trans (Nat.add_le_add_right hl 2) (by decide))
  have b := split_txB (s := 10) (l := TL.joinL [10] ys) (by decide) hl
  rw [a] at b
  exact (nm_inj (D.lst.inj (Option.some.inj b))).symm
theorem lines6 {hs : List (List Nat)} {rows : List (List D)} (h : Nms hs) (hl : hs.length ≤ 6) (ok : rowsOk hs.length rows) : ∀ y ∈ linesL hs rows, y.length ≤ 102 ∧ Asc y := by
  have e : ([32] : List Nat).length = 1 := rfl
  have g := lines_ok h (show hs.length ≤ 8 by omega) ok
  intro y hy
  refine ⟨?_, fun c hc => ((g y hy).2 c hc).2⟩
  rcases List.mem_cons.mp hy with rfl | hy
  · have := joinL_len [32] 8 hs fun y hy => (h.ok y hy).2.1
    rw [e] at this
    unfold headL
    omega
  · obtain ⟨r, hr, rfl⟩ := List.mem_map.mp hy
    obtain ⟨l, o⟩ := ok r hr
    have := joinL_len [32] 16 (r.map wrL) fun y hy => by
      obtain ⟨x, hx, rfl⟩ := List.mem_map.mp hy
      exact (wrL_ok (o x hx)).2.1
    rw [List.length_map, e] at this
    unfold rowL
    omega
theorem tab6 {hs : List (List Nat)} {rows : List (List D)} (h : Nms hs) (hl : hs.length ≤ 6) (ok : rowsOk hs.length rows) (hr : rows.length ≤ 62) : (tabL hs rows).length ≤ 6600 ∧ Asc (tabL hs rows) ∧ spS 10 (tabL hs rows) = linesL hs rows ∧ (linesL hs rows).length ≤ 63 := by
  have g := lines6 h hl ok
  have e2 : (linesL hs rows).length = rows.length + 1 := by unfold linesL; rw [List.length_cons, List.length_map]
  have ll : (tabL hs rows).length ≤ 6600 := by
    have := joinL_len [10] 102 (linesL hs rows) fun y hy => (g y hy).1
    have e : ([10] : List Nat).length = 1 := rfl
    rw [e, e2] at this
    unfold tabL
    omega
  refine ⟨ll, joinL_mem (by decide) _ fun y hy => (g y hy).2, ?_, by omega⟩
  unfold tabL at ll ⊢
  refine spS_join (fun z => by rw [z] at e2; exact absurd e2 (by simp)) (fun y hy m => ?_) (by omega)
  have := ((lines_ok h (show hs.length ≤ 8 by omega) ok y hy).2 10 m).1
  omega
theorem cellW_cell {l : List Nat} : ∀ x ∈ cellW l, cellD x = true := by
  intro x hx
  unfold cellW at hx
  split at hx
  · rw [List.mem_singleton.mp hx]; rfl
  · split at hx
    · rename_i h
      rw [List.mem_singleton.mp hx]
      have : wordD (.str (tx l)) 12 = true := by rw [← h]; exact wordD_tx (n := 12)
      unfold cellD
      rw [this, Bool.or_true]
    · split at hx
      · rename_i h
        rw [List.mem_singleton.mp hx]
        have := num_small h.1
        have e : numD (.int (numV l)) (-999999999999999) 999999999999999 = true := by
          show (decide _ && decide _) = true
          rw [decide_eq_true (by omega), decide_eq_true (by omega)]
          rfl
        unfold cellD
        rw [e, Bool.or_true]
        rfl
      · cases hx
theorem rowC_cell {l : List Nat} : ∀ x ∈ rowC l, cellD x = true := fun x hx => by
  obtain ⟨w, _, h⟩ := List.mem_flatMap.mp hx
  exact cellW_cell x h
theorem goRows_ok {n : Nat} : ∀ {ls : List (List Nat)} {k : Nat} {rs : List (List D)}, goRows n k ls = .inr rs → rowsOk n rs
  | [], k, rs, h => by
    have h' : Sum.inr [] = (Sum.inr rs : Sum Nat (List (List D))) := h
    cases h'
    exact fun _ z => absurd z List.not_mem_nil
  | l :: ls, k, rs, h => by
    unfold goRows at h
    split at h
    · rename_i c
      cases e : goRows n (k + 1) ls with
      | inl j => rw [e] at h; cases h
      | inr xs =>
        rw [e] at h
        cases h
        intro r hr
        rcases List.mem_cons.mp hr with rfl | hr
        · exact ⟨row_pos c.1, rowC_cell⟩
        · exact goRows_ok e r hr
    · cases h
theorem heads_nms {hs : List (List Nat)} (h : headsB hs = true) : Nms hs := by
  unfold headsB at h
  simp only [Bool.and_eq_true, decide_eq_true_eq, List.all_eq_true] at h
  refine ⟨h.2.1, fun y hy => ?_⟩
  obtain ⟨a, b, c⟩ := wdB_let (h.1 y hy)
  exact ⟨a, b, fun d hd => abcL_let d (c d hd)⟩
theorem tableOf_ok {l : List Nat} {hs : List (List Nat)} {rows : List (List D)} (e : tableOf l = .inr (hs, rows)) : Nms hs ∧ hs.length ≤ 6 ∧ rowsOk hs.length rows := by
  unfold tableOf at e
  split at e
  · cases e
  · rename_i h rest _
    split at e
    · rename_i hb
      cases g : goRows (spS 32 h).length 1 rest with
      | inl k => rw [g] at e; cases e
      | inr rs =>
        rw [g] at e
        cases e
        exact ⟨heads_nms hb, (heads_ne hb).2, goRows_ok g⟩
    · cases e
theorem ne_row (k : Nat) : neD (.tup [.str "row", .int ((k : Nat) : Int), .bl true]) (.tup [.str "row", .int ((k : Nat) : Int), .bl true]) = some (.bl false) := by
  have p : Pd 1 (.tup [.str "row", .int ((k : Nat) : Int), .bl true]) := .tup fun x hx => by
    rcases List.mem_cons.mp hx with rfl | hx
    · exact ⟨rfl, by decide +kernel, Nat.le_refl _⟩
    rcases List.mem_cons.mp hx with rfl | hx
    · exact .int
    rw [List.mem_singleton.mp hx]
    exact .bl
  have s := p.shp (by decide)
  have e : eqv (D.tup [.str "row", .int ((k : Nat) : Int), .bl true]) (.tup [.str "row", .int ((k : Nat) : Int), .bl true]) = true := eqv_same s
  unfold neD
  rw [e, s]
  rfl
theorem isI_ob {d : D} {B n k : Nat} (h : Sh B n k d) : isObD d = false := wf_ob h.wf


end
end Law

namespace Law
open PySem PySem.Spec PyProof.Rows L2 Tk
section
variable {P : Program} {w : World} {K : PySem.W.Frag} {mg : Str → Option Value} {base : Heap}
/-! ## the law -/
theorem ok_law {C_Table : Addr} (T_Table : Tc_Table K mg C_Table)
    {C_NoText : Addr} (X_NoText : Xk P w K mg base "NoText" C_NoText "row")
    {f_l_pen : Addr} {fd_l_pen : FuncData} (D_l_pen : Df K mg "_law_pen" st_l_pen ["_law_script"] f_l_pen fd_l_pen)
    {f_l_draw : Addr} {fd_l_draw : FuncData} (D_l_draw : Df K mg "_law_draw" st_l_draw ["_law_pen_here", "_law_many"] f_l_draw fd_l_draw)
    {f_l_pick : Addr} {fd_l_pick : FuncData} (D_l_pick : Df K mg "_law_pick" st_l_pick ["_law_pen_here", "_law_some"] f_l_pick fd_l_pick)
    {f_l_names : Addr} {fd_l_names : FuncData} (D_l_names : Df K mg "_law_names" st_l_names ["_law_pen_here", "_law_many"] f_l_names fd_l_names)
    {f_l_scene : Addr} {fd_l_scene : FuncData} (D_l_scene : Df K mg "_law_scene" st_l_scene ["_law_pen_here"] f_l_scene fd_l_scene)
    {f_l_cell : Addr} {fd_l_cell : FuncData} (D_l_cell : Df K mg "_law_cell" st_l_cell ["_law_pen_here"] f_l_cell fd_l_cell)
    {f_l_rows : Addr} {fd_l_rows : FuncData} (D_l_rows : Df K mg "_law_rows" st_l_rows ["_law_pen_here", "_law_wide", "_law_many"] f_l_rows fd_l_rows)
    {f_l_columns : Addr} {fd_l_columns : FuncData} (D_l_columns : Df K mg "_law_columns" st_l_columns ["_law_pen_here", "_law_scene_here", "_law_most"] f_l_columns fd_l_columns)
    {f_l_odd : Addr} {fd_l_odd : FuncData} (D_l_odd : Df K mg "_law_odd" st_l_odd ["_law_pen_here", "_law_deep"] f_l_odd fd_l_odd)
    {f_l_letters : Addr} {fd_l_letters : FuncData} (D_l_letters : Df K mg "_law_letters" st_l_letters ["_law_thing", "_law_most"] f_l_letters fd_l_letters)
    {f_l_written : Addr} {fd_l_written : FuncData} (D_l_written : Df K mg "_law_written" st_l_written ["_law_thing"] f_l_written fd_l_written)
    {f_l_spoilt_text : Addr} {fd_l_spoilt_text : FuncData} (D_l_spoilt_text : Df K mg "_law_spoilt_text" st_l_spoilt_text ["_law_pen_here", "_law_text"] f_l_spoilt_text fd_l_spoilt_text)
    {f_l_cell_of_word : Addr} {fd_l_cell_of_word : FuncData} (D_l_cell_of_word : Df K mg "_law_cell_of_word" st_l_cell_of_word ["_law_word"] f_l_cell_of_word fd_l_cell_of_word)
    {f_l_is_name : Addr} {fd_l_is_name : FuncData} (D_l_is_name : Df K mg "_law_is_name" st_l_is_name ["_law_thing"] f_l_is_name fd_l_is_name)
    {f_l_table_text : Addr} {fd_l_table_text : FuncData} (D_l_table_text : Df K mg "_law_table_text" st_l_table_text ["_law_columns_here", "_law_rows_here"] f_l_table_text fd_l_table_text)
    {f_l_table_of : Addr} {fd_l_table_of : FuncData} (D_l_table_of : Df K mg "_law_table_of" st_l_table_of ["_law_text"] f_l_table_of fd_l_table_of)
    {f_l_rows_turned : Addr} {fd_l_rows_turned : FuncData} (D_l_rows_turned : Df K mg "_law_rows_turned" st_l_rows_turned ["_law_pen_here", "_law_text"] f_l_rows_turned fd_l_rows_turned)
    {f_read_table : Addr} {fd_read_table : FuncData} (D_read_table : Df K mg "read_table" st_read_table ["text"] f_read_table fd_read_table)
    {f_read_heads : Addr} {fd_read_heads : FuncData} (D_read_heads : Df K mg "read_heads" st_read_heads ["row"] f_read_heads fd_read_heads)
    {f_read_cells : Addr} {fd_read_cells : FuncData} (D_read_cells : Df K mg "read_cells" st_read_cells ["row", "many"] f_read_cells fd_read_cells)
    {f_read_word : Addr} {fd_read_word : FuncData} (D_read_word : Df K mg "read_word" st_read_word ["word"] f_read_word fd_read_word)
    {f_is_name : Addr} {fd_is_name : FuncData} (D_is_name : Df K mg "is_name" st_is_name ["thing"] f_is_name fd_is_name)
    {f_is_word : Addr} {fd_is_word : FuncData} (D_is_word : Df K mg "is_word" st_is_word ["thing", "most"] f_is_word fd_is_word)
    {E_Table_0 : Addr} {f_Table___init__ : Addr} {fd_Table___init__ : FuncData} (D_Table___init__ : Dk K mg "Table" C_Table "Table.__init__" st_Table___init__ ["self", "columns", "rows"] [V.ref E_Table_0] f_Table___init__ fd_Table___init__)
    {f_Table_columns : Addr} {fd_Table_columns : FuncData} (D_Table_columns : Dm K C_Table "columns" "Table.columns" st_Table_columns ["self"] f_Table_columns fd_Table_columns)
    {f_Table_rows : Addr} {fd_Table_rows : FuncData} (D_Table_rows : Dm K C_Table "rows" "Table.rows" st_Table_rows ["self"] f_Table_rows fd_Table_rows)
    {f_law c_law P_law : Addr} {fd_law : FuncData} (F_law : FunC K "law" "law" st_law f_law c_law fd_law)
    {f_l_refused_row : Addr} {dV_rr kV_rr dc_rr pm_rr cd_rr ct_rr oc_rr : Value} {an_rr od_rr : Option Addr} {sl_rr : Array (Option Value)}
    (lk_l_refused_row : K.lookup f_l_refused_row = some ⟨oc_rr, od_rr, .func (PySem.W.fnOf "_law_refused_row" "_law_refused_row" (defArgs st_l_refused_row) (defBody st_l_refused_row) (defScope st_l_refused_row) dV_rr kV_rr dc_rr pm_rr an_rr cd_rr ct_rr), sl_rr⟩)
    (hc_l_refused_row : PySem.W.codeIn K cd_rr "_law_refused_row" = true) (D_l_refused_row : Df K mg "_law_refused_row" st_l_refused_row ["_law_call"] f_l_refused_row (PySem.W.fnOf "_law_refused_row" "_law_refused_row" (defArgs st_l_refused_row) (defBody st_l_refused_row) (defScope st_l_refused_row) dV_rr kV_rr dc_rr pm_rr an_rr cd_rr ct_rr))
    (T : Tb mg) (hbs : BaseS base) (TB : LamX.TabB base mg c_law P_law) : FnG P w K mg base CX0 7 f_law fd_law ["_law_script"] (lawSpT K P_law) := by
  have G_l_pen := ok_l_pen (P := P) (w := w) (base := base) D_l_pen T
  have G_l_draw := fun p => (ok_l_draw (P := P) (w := w) (base := base) D_l_draw T p).tab P_law "law.<locals>.<lambda>"
  have G_l_scene := fun p => (ok_l_scene (P := P) (w := w) (base := base) D_l_scene D_l_names D_l_draw D_l_pick T p).tab P_law "law.<locals>.<lambda>"
  have G_l_columns := fun p => (ok_l_columns (P := P) (w := w) (base := base) D_l_columns D_l_draw T p).tab P_law "law.<locals>.<lambda>"
  have G_l_rows := fun p => (ok_l_rows (P := P) (w := w) (base := base) D_l_rows D_l_cell D_l_draw D_l_pick T p).tab P_law "law.<locals>.<lambda>"
  have G_l_odd := fun p => (ok_l_odd (P := P) (w := w) (base := base) D_l_odd T p D_l_draw).tab P_law "law.<locals>.<lambda>"
  have G_l_rows_turned := fun p => (ok_l_rows_turned (P := P) (w := w) (base := base) D_l_rows_turned D_l_draw D_l_pick T p).tab P_law "law.<locals>.<lambda>"
  have G_l_spoilt_text := fun p => (ok_l_spoilt_text (P := P) (w := w) (base := base) D_l_spoilt_text D_l_draw D_l_pick T p).tab P_law "law.<locals>.<lambda>"
  have G_l_table_text := fun p => (ok_l_table_text (P := P) (w := w) (base := base) D_l_table_text D_l_written T (PenW p)).tab P_law "law.<locals>.<lambda>"
  have G_l_table_of := fun p => (ok_l_table_of (P := P) (w := w) (base := base) D_l_table_of D_l_is_name D_l_letters D_l_cell_of_word T (PenW p)).tab P_law "law.<locals>.<lambda>"
  have G_read_table := fun p => (ok_read_table (P := P) (w := w) (base := base) T_Table X_NoText D_read_table D_read_heads D_read_cells D_read_word D_is_name D_is_word D_Table___init__ T (PenW p)).tabX P_law "law.<locals>.<lambda>"
  have G_Table_columns := fun p => (ok_Table_columns (P := P) (w := w) (base := base) T_Table D_Table_columns T (PenW p)).tab P_law "law.<locals>.<lambda>"
  have G_Table_rows := fun p => (ok_Table_rows (P := P) (w := w) (base := base) T_Table D_Table_rows T (PenW p)).tab P_law "law.<locals>.<lambda>"
  have XB := X_NoText
  refine okGc F_law sc_law (fun vs H Q E ⟨a, ns, e, _⟩ => by rw [e]; rfl) (fun A outer s H vs Q E gd hr ⟨a, ns, e, hl, hP, q⟩ => ?_)
  subst e
  have hu := hr.units
  refine ⟨_, pss_cons (ps_set (i := 1) sc_law.nd rfl (.inl rfl) (pe_cl G_l_pen gd (hr.mono (by decide)) rfl D_l_pen.m D_l_pen.F.kp D_l_pen.b .nil pass0 (pa_cons (pv 0) pa_nil))) (pss_any (Wf := fun p => TabW (PenW p) P_law "law.<locals>.<lambda>") (fun p => (dss_cons (ds_set (i := 2) sc_law.nd rfl (.inl rfl) (de_cl (G_l_scene p) gd (hr.mono (by decide)) rfl D_l_scene.m D_l_scene.F.kp D_l_scene.b .nil .nil (dl_cons (de_v 1) dl_nil)))
    (dss_cons (ds_for PassesOwn.never rfl (di_rng1 rfl T.range de_int) (gf_name 3) (pg_name (i := 3) sc_law.nd rfl (.inl rfl))
      (dss_cons (ds_set (i := 4) sc_law.nd rfl (.inl rfl) (de_cl (G_l_columns p) gd (hr.mono (by decide)) rfl D_l_columns.m D_l_columns.F.kp D_l_columns.b .nil .nil (dl_cons (de_v 1) (dl_cons (de_v 2) (dl_cons de_int dl_nil)))))
      (dss_cons (ds_set (i := 5) sc_law.nd rfl (.inl rfl) (de_ix (de_lst (dl_cons (de_cl (G_l_draw p) gd (hr.mono (by decide)) rfl D_l_draw.m D_l_draw.F.kp D_l_draw.b .nil .nil (dl_cons (de_v 1) (dl_cons de_int dl_nil))) (dl_cons (de_op o_add de_int (de_cl (G_l_draw p) gd (hr.mono (by decide)) rfl D_l_draw.m D_l_draw.F.kp D_l_draw.b .nil .nil (dl_cons (de_v 1) (dl_cons de_int dl_nil)))) dl_nil))) (de_f1T f_int rfl T.int (by decide +kernel) (de_cmp (o_eq2 hu) (de_cl (G_l_draw p) gd (hr.mono (by decide)) rfl D_l_draw.m D_l_draw.F.kp D_l_draw.b .nil .nil (dl_cons (de_v 1) (dl_cons de_int dl_nil))) de_int (nomark _)))))
      (dss_cons (ds_set (i := 6) sc_law.nd rfl (.inr rfl) (de_cl (G_l_table_text p) gd (hr.mono (by decide)) rfl D_l_table_text.m D_l_table_text.F.kp D_l_table_text.b .nil .nil (dl_cons (de_v 4) (dl_cons (de_cl (G_l_rows p) gd (hr.mono (by decide)) rfl D_l_rows.m D_l_rows.F.kp D_l_rows.b .nil .nil (dl_cons (de_v 1) (dl_cons (de_f1 f_len rfl T.len (by decide +kernel) (de_v 4)) (dl_cons (de_v 5) dl_nil)))) dl_nil))))
      (dss_cons (ds_if (dp_cmp (o_eq2 hu) (de_cl (G_l_draw p) gd (hr.mono (by decide)) rfl D_l_draw.m D_l_draw.F.kp D_l_draw.b .nil .nil (dl_cons (de_v 1) (dl_cons de_int dl_nil))) de_int (nomark _)) (dss_one (ds_set (i := 6) sc_law.nd rfl (.inr rfl) (de_cl (G_l_rows_turned p) gd (hr.mono (by decide)) rfl D_l_rows_turned.m D_l_rows_turned.F.kp D_l_rows_turned.b .nil .nil (dl_cons (de_v 1) (dl_cons (de_v 6) dl_nil))))) dss_nil)
      (dss_cons (ds_for PassesOwn.never rfl (di_rng1 rfl T.range (de_cl (G_l_draw p) gd (hr.mono (by decide)) rfl D_l_draw.m D_l_draw.F.kp D_l_draw.b .nil .nil (dl_cons (de_v 1) (dl_cons de_int dl_nil)))) (gf_name 7) (pg_name (i := 7) sc_law.nd rfl (.inl rfl))
        (dss_one (ds_set (i := 6) sc_law.nd rfl (.inr rfl) (de_cl (G_l_spoilt_text p) gd (hr.mono (by decide)) rfl D_l_spoilt_text.m D_l_spoilt_text.F.kp D_l_spoilt_text.b .nil .nil (dl_cons (de_v 1) (dl_cons (de_v 6) dl_nil))))))
      (dss_cons (ds_set (i := 8) sc_law.nd rfl (.inl rfl) (de_cl (G_l_table_of p) gd (hr.mono (by decide)) rfl D_l_table_of.m D_l_table_of.F.kp D_l_table_of.b .nil .nil (dl_cons (de_v 6) dl_nil)))
      (dss_cons (ds_if (dp_val (de_isi (T := "int") (by decide +kernel) rfl T.isinstance (de_v 8) rfl T.int (by decide +kernel))) (dss_one (ds_if (dp_cmp (o_ne hu) (de_lam (k := 4) gd rfl D_l_refused_row.m D_l_refused_row.F.kp lk_l_refused_row hc_l_refused_row D_l_refused_row.b sc_l_refused_row rfl (.inl rfl) (fun b0 => gives_l_refused_row b0 XB T) TB rfl rfl (hr.mono (by decide)) (LamX.lamS_by (sc := defScope st_law) (by decide +kernel)) rfl (fun _ _ _ _ _ => rfl) (fun _ _ _ _ _ _ _ b qx gd hr tk => (de_clX ((G_read_table p).wbX b) gd (hr.mono (by decide)) rfl D_read_table.m D_read_table.F.kp D_read_table.b .nil .nil tk (dl_cons (de_v 6) dl_nil)))) (de_tup (dl_cons de_str (dl_cons (de_v 8) (dl_cons de_bl dl_nil)))) (nomark _)) (dss_one (ds_ret de_bl)) dss_nil)) (dss_cons (ds_set (i := 9) sc_law.nd rfl (.inl rfl) (de_clX (G_read_table p) gd (hr.mono (by decide)) rfl D_read_table.m D_read_table.F.kp D_read_table.b .nil .nil takesN (dl_cons (de_v 6) dl_nil)))
        (dss_one (ds_if (dp_cmp (o_ne hu) (de_f1 (f_repr hbs gd hu) rfl T.repr (by decide +kernel) (de_tup (dl_cons (de_meth0 (G_Table_columns p) gd (hr.mono (by decide)) T_Table.cls D_Table_columns.m D_Table_columns.b .nil .nil (de_v 9)) (dl_cons (de_meth0 (G_Table_rows p) gd (hr.mono (by decide)) T_Table.cls D_Table_rows.m D_Table_rows.b .nil .nil (de_v 9)) dl_nil)))) (de_f1 (f_repr hbs gd hu) rfl T.repr (by decide +kernel) (de_v 8)) (nomark _)) (dss_one (ds_ret de_bl)) dss_nil))))
      (dss_cons (ds_set (i := 10) sc_law.nd rfl (.inr rfl) (de_cl (G_l_odd p) gd (hr.mono (by decide)) rfl D_l_odd.m D_l_odd.F.kp D_l_odd.b .nil .nil (dl_cons (de_v 1) (dl_cons de_int dl_nil))))
      (dss_one (ds_if (DW.dp (dw_and (dp_not (dp_val (de_isi (T := "str") (by decide +kernel) rfl T.isinstance (de_v 10) rfl T.str (by decide +kernel)))) (dw_and1 (dp_cmp (o_ne hu) (de_lam (k := 4) gd rfl D_l_refused_row.m D_l_refused_row.F.kp lk_l_refused_row hc_l_refused_row D_l_refused_row.b sc_l_refused_row rfl (.inl rfl) (fun b0 => gives_l_refused_row b0 XB T) TB rfl rfl (hr.mono (by decide)) (LamX.lamS_by (sc := defScope st_law) (by decide +kernel)) rfl (fun _ _ _ _ _ => rfl) (fun _ _ _ _ _ _ _ b qx gd hr tk => (de_clX ((G_read_table p).wbX b) gd (hr.mono (by decide)) rfl D_read_table.m D_read_table.F.kp D_read_table.b .nil .nil tk (dl_cons (de_v 10) dl_nil)))) (de_tup (dl_cons de_str (dl_cons de_int (dl_cons de_bl dl_nil)))) (nomark _))))) (dss_one (ds_ret de_bl)) dss_nil)))))))))))
    (dss_one (ds_ret de_bl)))))), ?_⟩
  refine ⟨.ref a, rfl, a, ns, rfl, hl, fun p cells H' _ _ hlen hkp hp hc => ?_⟩
  show ∃ i, tS (TabW (PenW i) P_law "law.<locals>.<lambda>") _ { nx := _, rt := Q } (some (.ref a) :: some (.ref p.p) :: List.replicate 9 none) H'
  refine pen_goT hp hc (hkp _ _ hP) hlen q ?_
  refine ⟨_, rfl, rfl, (show 0 + 60 < 2 ^ 60 from by omega), fun tabs cols nms (t0 : Nat) _ _ hc9 Nc _ _ h0 => ?_⟩
  refine ⟨6, rfl, by decide, by decide, forW_inv (W := TabW (PenW p) P_law "law.<locals>.<lambda>") (fun j ρ (t : Nat) => t ≤ 60 + 6400 * j ∧ ∃ a3 a4 a5 a6 a7 a8 a9 a10, ρ = [none, some (.d (.ob p.p)), some (.d (sceneD tabs cols nms)), a3, a4, a5, a6, a7, a8, a9, a10]) _ (i := 0) ⟨by omega, _, _, _, _, _, _, _, _, rfl⟩ ?_ (by
    rintro ρ (t : Nat) ⟨_, a3, a4, a5, a6, a7, a8, a9, a10, rfl⟩
    exact rfl)⟩
  rintro j x ρ (t : Nat) hx ⟨ht, a3, a4, a5, a6, a7, a8, a9, a10, rfl⟩
  obtain ⟨hj, rfl⟩ := rngD_at hx
  have hj6 : j < 6 := hj
  refine ⟨_, rfl, fun nx hn => ?_⟩
  refine ⟨_, rfl, _, rfl, tabs, cols, nms, 6, rfl, hc9, Nc, by decide, by decide, by omega, fun cs (t1 : Nat) c1 c6 Ncs h1 => ?_⟩
  have nl : (nmD cs).length = cs.length := by unfold nmD; rw [List.length_map]
  dsimp only
  refine setI (W := TabW (PenW p) P_law "law.<locals>.<lambda>") (fun d (t2 : Nat) => ∃ m : Nat, d = .int (m : Int) ∧ m ≤ 62 ∧ t2 ≤ t1 + 3) (fun Q' hq => ?_) ?_
  · refine ⟨_, rfl, 5, rfl, by decide, by decide, by omega, fun k k0 k5 => ?_⟩
    refine ⟨_, rfl, 4, rfl, by decide, by decide, by show t1 + 1 < 2 ^ 60; omega, fun m m0 m4 => ?_⟩
    refine ⟨_, rfl, (by show 2 ≤ sizeLine; decide), _, rfl, 6, rfl, by decide, by decide, by show t1 + 1 + 1 < 2 ^ 60; omega, fun z z0 z6 => ?_⟩
    refine ⟨_, eqi, _, rfl, ?_⟩
    by_cases hz : z = 0
    · rw [decide_eq_true hz]
      refine ⟨_, rfl, hq _ _ ⟨(59 + m).toNat, ?_, by omega, Nat.le_refl _⟩⟩
      show D.int (59 + m) = _
      rw [Int.toNat_of_nonneg (by omega)]
    · rw [decide_eq_false hz]
      refine ⟨_, rfl, hq _ _ ⟨k.toNat, ?_, by omega, Nat.le_refl _⟩⟩
      rw [Int.toNat_of_nonneg (by omega)]
  rintro _ (t2 : Nat) ⟨m, rfl, m62, h2⟩
  refine ⟨_, rfl, _, rfl, _, rfl, _, rfl, _, rfl, (nmD cs).length, m, rfl, by omega, by omega, by omega, by omega, fun rows (t3 : Nat) hl ok h3 => ?_⟩
  rw [nl] at ok
  refine ⟨cs, rows, rfl, Ncs, by omega, ok, by omega, ?_⟩
  obtain ⟨len6, asc6, sp6, few6⟩ := tab6 Ncs c6 ok (by omega)
  have ln6 := lines6 Ncs c6 ok
  dsimp only
  refine cutI (W := TabW (PenW p) P_law "law.<locals>.<lambda>") (fun ρ' (t4 : Nat) => t4 ≤ t3 + 5 ∧ ∃ (l : List Nat) (b7 b8 b9 b10 : Option Sl), l.length ≤ 6600 ∧ Asc l ∧ ρ' = [none, some (.d (.ob p.p)), some (.d (sceneD tabs cols nms)), some (.d (.int (0 + (j : Int)))), some (.d (.tup (nmD cs))), some (.d (.int (m : Int))), some (.d (.str (tx l))), b7, b8, b9, b10]) (fun nx' q' => ?_) ?_
  · refine ⟨_, rfl, 3, rfl, by decide, by decide, by omega, fun d d0 d3 => ⟨_, eqi, _, rfl, ite_i (fun _ => ?_) fun _ => q' _ _ ⟨by show t3 + 1 ≤ _; omega, _, _, _, _, _, len6, asc6, rfl⟩⟩⟩
    refine ⟨_, rfl, _, rfl, _, rfl, by omega, by rw [sp6]; exact ln6, by rw [sp6]; exact few6, by show t3 + 1 + 8 < 2 ^ 60; omega, fun l' (t4 : Nat) hl' ha' h4 => q' _ _ ⟨by omega, l', _, _, _, _, hl', ha', rfl⟩⟩
  rintro _ (t4 : Nat) ⟨h4, l, b7, b8, b9, b10, ll, la, rfl⟩
  refine ⟨_, rfl, 4, rfl, by decide, by decide, by omega, fun n n0 n4 => ⟨n, rfl, by omega, by omega, ?_⟩⟩
  refine forW_inv (W := TabW (PenW p) P_law "law.<locals>.<lambda>") (fun i ρ' (t5 : Nat) => t5 ≤ t4 + 1 + 5 * i ∧ ∃ (l : List Nat) (b7 : Option Sl), l.length ≤ 6600 + i ∧ Asc l ∧ ρ' = [none, some (.d (.ob p.p)), some (.d (sceneD tabs cols nms)), some (.d (.int (0 + (j : Int)))), some (.d (.tup (nmD cs))), some (.d (.int (m : Int))), some (.d (.str (tx l))), b7, b8, b9, b10]) _ (i := 0) ⟨by omega, l, _, ll, la, rfl⟩ ?_ ?_
  · rintro i x ρ (t5 : Nat) hx2 ⟨h5, l, b7, ll, la, rfl⟩
    obtain ⟨hi, rfl⟩ := rngD_at hx2
    refine ⟨_, rfl, fun nx2 hn2 => ?_⟩
    refine ⟨_, rfl, _, rfl, l, rfl, by omega, la, by omega, fun l' (t6 : Nat) hl' ha' h6 => hn2 _ _ ⟨by omega, l', _, by omega, ha', rfl⟩⟩
  rintro ρ (t5 : Nat) ⟨h5, l, b7, ll, la, rfl⟩
  rw [rngD_length] at h5 ll
  have ll' : l.length ≤ 7000 := by omega
  have h5' : t5 ≤ t4 + 21 := by omega
  clear h5 ll
  refine ⟨_, rfl, l, rfl, by omega, la, ?_⟩
  dsimp only
  refine cutI (W := TabW (PenW p) P_law "law.<locals>.<lambda>") (fun ρ' (t6 : Nat) => t6 = t5 ∧ ∃ (b8 b9 : Option Sl), ρ' = [none, some (.d (.ob p.p)), some (.d (sceneD tabs cols nms)), some (.d (.int (0 + (j : Int)))), some (.d (.tup (nmD cs))), some (.d (.int (m : Int))), some (.d (.str (tx l))), b7, b8, b9, b10]) (fun nx' q' => ?_) ?_
  · cases eT : tableOf l with
    | inl k =>
      refine ⟨_, rfl, rfl, _, rfl, ite_i (fun _ => ?_) fun h => no_h h⟩
      intro Q' X' hQ hX b
      refine ⟨_, rfl, .inl ⟨l, rfl, by omega, la, ?_⟩⟩
      rw [eT]
      refine hX _ _ ?_
      refine ⟨_, rfl, (by show 3 ≤ sizeLine; decide), _, ne_row k, _, rfl, ite_i (fun h => absurd h (by decide)) fun _ => q' _ _ ⟨rfl, _, _, rfl⟩⟩
    | inr pr =>
      obtain ⟨hs, rs⟩ := pr
      obtain ⟨Nh, h6, okr⟩ := tableOf_ok eT
      refine ⟨_, rfl, rfl, _, rfl, ite_i (fun h => absurd (show (false : Bool) = true from h) (by decide)) fun _ => ?_⟩
      refine ⟨_, rfl, .inl ⟨l, rfl, by omega, la, ?_⟩⟩
      rw [eT]
      intro h60
      have h60 : rs.length ≤ 60 := h60
      have shT : Sh 45 161802 3 (.tup [.tup (nmD hs), .lst (rs.map D.tup)]) := Sh.tup (n := 80900) (k := 2) (m := 2) (fun x hx => by
        have : x = .tup (nmD hs) ∨ x = .lst (rs.map D.tup) := by simpa using hx
        rcases this with rfl | rfl
        · exact (nm_sh Nh (by omega)).le (by decide) (by decide)
        · exact rows_sh okr (by omega) (by omega)) (Nat.le_refl _) (by decide) (by decide) (by decide)
      have rep := shT.repr (by decide) (by decide) (by decide)
      refine ⟨_, rfl, ⟨_, _, rfl, by decide +kernel⟩, hs, rs, rfl, _, rfl, ⟨_, _, rfl, by decide +kernel⟩, hs, rs, rfl, (by show 2 ≤ sizeLine; decide), _, rep, _, rfl, _, rep, _, nes_same, _, rfl, ite_i (fun h => absurd h (by decide)) fun _ => q' _ _ ⟨rfl, _, _, rfl⟩⟩
  rintro _ (t6 : Nat) ⟨rfl, b8, b9, rfl⟩
  refine ⟨_, rfl, 1, rfl, by decide, by omega, fun d (t7 : Nat) sh h7 => ?_⟩
  have ob := isI_ob sh
  refine ⟨_, rfl, ob, _, rfl, ?_⟩
  cases hstr : isI "str" d with
  | true =>
    refine ite_i (fun h => absurd (show (false : Bool) = true from h) (by decide)) fun _ => ite_i (fun h => absurd (show (false : Bool) = true from h) (by decide)) fun _ => hn _ _ ⟨by omega, _, _, _, _, _, _, _, _, rfl⟩
  | false =>
    refine ite_i (fun _ => ?_) fun h => no_h h
    intro Q' X' hQ hX b
    refine ⟨_, rfl, .inr ⟨d, rfl, ob, hstr, ?_⟩⟩
    refine hX _ _ ?_
    refine ⟨(by show 3 ≤ sizeLine; decide), _, ne_row 0, _, rfl, ite_i (fun h => absurd h (by decide)) fun _ => hn _ _ ⟨by omega, _, _, _, _, _, _, _, _, rfl⟩⟩


end
end Law

namespace Law
open PySem PySem.Spec PyProof.Rows L2 Tk
/-! ## what the top has written, and the law's own head -/
theorem all_mk {l : PySem.W.OpenLaw} {w : World} {K : PySem.W.Frag} {h : Heap} {mg : Str → Option Value} {fa c_law P_law : Addr} (X : K.In h) (G : h.Ns mainGlobals mg) (hfa : mg "law" = some (.ref fa)) (htab : PySem.W.tabIn K "law" = some (c_law, P_law))
    {f_law : Addr} {od_law an_law : Option Addr} {sl_law : Array (Option Value)} {oc_law kV_law dc_law pm_law cd_law ct_law : Value}
    {C_Table : Addr}
    {C_NoText f_NoText___init__ : Addr} {od_NoText___init__ an_NoText___init__ : Option Addr} {sl_NoText___init__ : Array (Option Value)} {oc_NoText___init__ kV_NoText___init__ dc_NoText___init__ pm_NoText___init__ cd_NoText___init__ ct_NoText___init__ : Value}
    {nm_NoText q_NoText : Str} {N_NoText : Addr} {bs_NoText sb_NoText : List Value} {sn_NoText : List Str} {ab_NoText : Bool} {co_NoText : Option Bool} {dd_NoText : Option Addr} {m0_NoText m1_NoText m2_NoText m3_NoText m5_NoText : Option Value}
    {f_l_pen : Addr} {od_l_pen an_l_pen : Option Addr} {sl_l_pen : Array (Option Value)} {oc_l_pen kV_l_pen dc_l_pen pm_l_pen cd_l_pen ct_l_pen : Value}
    {f_l_draw : Addr} {od_l_draw an_l_draw : Option Addr} {sl_l_draw : Array (Option Value)} {oc_l_draw kV_l_draw dc_l_draw pm_l_draw cd_l_draw ct_l_draw : Value}
    {f_l_pick : Addr} {od_l_pick an_l_pick : Option Addr} {sl_l_pick : Array (Option Value)} {oc_l_pick kV_l_pick dc_l_pick pm_l_pick cd_l_pick ct_l_pick : Value}
    {f_l_names : Addr} {od_l_names an_l_names : Option Addr} {sl_l_names : Array (Option Value)} {oc_l_names kV_l_names dc_l_names pm_l_names cd_l_names ct_l_names : Value}
    {f_l_scene : Addr} {od_l_scene an_l_scene : Option Addr} {sl_l_scene : Array (Option Value)} {oc_l_scene kV_l_scene dc_l_scene pm_l_scene cd_l_scene ct_l_scene : Value}
    {f_l_cell : Addr} {od_l_cell an_l_cell : Option Addr} {sl_l_cell : Array (Option Value)} {oc_l_cell kV_l_cell dc_l_cell pm_l_cell cd_l_cell ct_l_cell : Value}
    {f_l_rows : Addr} {od_l_rows an_l_rows : Option Addr} {sl_l_rows : Array (Option Value)} {oc_l_rows kV_l_rows dc_l_rows pm_l_rows cd_l_rows ct_l_rows : Value}
    {f_l_columns : Addr} {od_l_columns an_l_columns : Option Addr} {sl_l_columns : Array (Option Value)} {oc_l_columns kV_l_columns dc_l_columns pm_l_columns cd_l_columns ct_l_columns : Value}
    {f_l_odd : Addr} {od_l_odd an_l_odd : Option Addr} {sl_l_odd : Array (Option Value)} {oc_l_odd kV_l_odd dc_l_odd pm_l_odd cd_l_odd ct_l_odd : Value}
    {f_l_letters : Addr} {od_l_letters an_l_letters : Option Addr} {sl_l_letters : Array (Option Value)} {oc_l_letters kV_l_letters dc_l_letters pm_l_letters cd_l_letters ct_l_letters : Value}
    {f_l_written : Addr} {od_l_written an_l_written : Option Addr} {sl_l_written : Array (Option Value)} {oc_l_written kV_l_written dc_l_written pm_l_written cd_l_written ct_l_written : Value}
    {f_l_spoilt_text : Addr} {od_l_spoilt_text an_l_spoilt_text : Option Addr} {sl_l_spoilt_text : Array (Option Value)} {oc_l_spoilt_text kV_l_spoilt_text dc_l_spoilt_text pm_l_spoilt_text cd_l_spoilt_text ct_l_spoilt_text : Value}
    {f_l_cell_of_word : Addr} {od_l_cell_of_word an_l_cell_of_word : Option Addr} {sl_l_cell_of_word : Array (Option Value)} {oc_l_cell_of_word kV_l_cell_of_word dc_l_cell_of_word pm_l_cell_of_word cd_l_cell_of_word ct_l_cell_of_word : Value}
    {f_l_is_name : Addr} {od_l_is_name an_l_is_name : Option Addr} {sl_l_is_name : Array (Option Value)} {oc_l_is_name kV_l_is_name dc_l_is_name pm_l_is_name cd_l_is_name ct_l_is_name : Value}
    {f_l_table_text : Addr} {od_l_table_text an_l_table_text : Option Addr} {sl_l_table_text : Array (Option Value)} {oc_l_table_text kV_l_table_text dc_l_table_text pm_l_table_text cd_l_table_text ct_l_table_text : Value}
    {f_l_table_of : Addr} {od_l_table_of an_l_table_of : Option Addr} {sl_l_table_of : Array (Option Value)} {oc_l_table_of kV_l_table_of dc_l_table_of pm_l_table_of cd_l_table_of ct_l_table_of : Value}
    {f_l_rows_turned : Addr} {od_l_rows_turned an_l_rows_turned : Option Addr} {sl_l_rows_turned : Array (Option Value)} {oc_l_rows_turned kV_l_rows_turned dc_l_rows_turned pm_l_rows_turned cd_l_rows_turned ct_l_rows_turned : Value}
    {f_read_table : Addr} {od_read_table an_read_table : Option Addr} {sl_read_table : Array (Option Value)} {oc_read_table kV_read_table dc_read_table pm_read_table cd_read_table ct_read_table : Value}
    {f_read_heads : Addr} {od_read_heads an_read_heads : Option Addr} {sl_read_heads : Array (Option Value)} {oc_read_heads kV_read_heads dc_read_heads pm_read_heads cd_read_heads ct_read_heads : Value}
    {f_read_cells : Addr} {od_read_cells an_read_cells : Option Addr} {sl_read_cells : Array (Option Value)} {oc_read_cells kV_read_cells dc_read_cells pm_read_cells cd_read_cells ct_read_cells : Value}
    {f_read_word : Addr} {od_read_word an_read_word : Option Addr} {sl_read_word : Array (Option Value)} {oc_read_word kV_read_word dc_read_word pm_read_word cd_read_word ct_read_word : Value}
    {f_is_name : Addr} {od_is_name an_is_name : Option Addr} {sl_is_name : Array (Option Value)} {oc_is_name kV_is_name dc_is_name pm_is_name cd_is_name ct_is_name : Value}
    {f_is_word : Addr} {od_is_word an_is_word : Option Addr} {sl_is_word : Array (Option Value)} {oc_is_word kV_is_word dc_is_word pm_is_word cd_is_word ct_is_word : Value}
    {f_Table___init__ : Addr} {od_Table___init__ an_Table___init__ : Option Addr} {sl_Table___init__ : Array (Option Value)} {oc_Table___init__ kV_Table___init__ dc_Table___init__ pm_Table___init__ cd_Table___init__ ct_Table___init__ : Value}
    {T_Table___init__ : Addr} {ocT_Table___init__ : Value} {odT_Table___init__ : Option Addr} {slT_Table___init__ : Array (Option Value)} {nT_Table___init__ : Nat} {E_Table_0 : Addr}
    {f_Table_columns : Addr} {od_Table_columns an_Table_columns : Option Addr} {sl_Table_columns : Array (Option Value)} {oc_Table_columns kV_Table_columns dc_Table_columns pm_Table_columns cd_Table_columns ct_Table_columns : Value}
    {f_Table_rows : Addr} {od_Table_rows an_Table_rows : Option Addr} {sl_Table_rows : Array (Option Value)} {oc_Table_rows kV_Table_rows dc_Table_rows pm_Table_rows cd_Table_rows ct_Table_rows : Value}
    {f_l_refused_row : Addr} {od_l_refused_row an_l_refused_row : Option Addr} {sl_l_refused_row : Array (Option Value)} {oc_l_refused_row kV_l_refused_row dc_l_refused_row pm_l_refused_row cd_l_refused_row ct_l_refused_row : Value}
    {t_LETTERS : Tok}
    {t_FIGURES : Tok}
    {t_MOST_LETTERS : Tok}
    {t_MOST_COLUMNS : Tok}
    {t_MOST_ROWS : Tok}
    (a_law : PySem.W.nsIn K mainGlobals "law" = some (some (.ref f_law))) (l_law : K.lookup f_law = some ⟨oc_law, od_law, .func (PySem.W.fnOf "law" "law" (defArgs st_law) (defBody st_law) (defScope st_law) .none kV_law dc_law pm_law an_law cd_law ct_law), sl_law⟩) (c_law1 : PySem.W.codeIn K cd_law "law" = true) (k_law : PySem.W.keepIn K (.ref f_law) = true)
    (aC_Table : PySem.W.nsIn K mainGlobals "Table" = some (some (.ref C_Table))) (pg_Table : PySem.W.plainGet K C_Table Str.empty = true) (hd_Table : PySem.W.hasDictIn K C_Table = true) (po_Table : PySem.W.plainOver K C_Table = true) (sa_Table : PySem.W.findIn K (.ref C_Table) "__setattr__" = some (some (.builtin "object.__setattr__"))) (mk_Table : PySem.W.makesIn K C_Table = true) (kc_Table : PySem.W.keepIn K (.ref C_Table) = true) (na_Table_heads : PySem.W.findIn K (.ref C_Table) "heads" = some none) (na_Table_lines : PySem.W.findIn K (.ref C_Table) "lines" = some none) (ica_Table : PySem.W.findIn K (.ref C_Table) "__class__" = some (some (.builtin "object.__class__"))) (icn_Table : PySem.W.specialIn K (.builtin "object.__class__") "__get__" = some (some (.builtin "getset_descriptor.__get__"))) (ict_Table : PySem.W.takesIn K (.builtin "object.__class__") = some true) (icm_Table : PySem.W.mroIn K C_Table (.type "object") = some true) (icc_Table : PySem.W.isClsIn K C_Table = true) (icy_Table : PySem.W.typeIn K (.ref C_Table) = some (.type "type")) (sb0_Table : PySem.W.subIn K (.type "NoneType") (.ref C_Table) = some false) (sb1_Table : PySem.W.subIn K (.type "bool") (.ref C_Table) = some false) (sb2_Table : PySem.W.subIn K (.type "int") (.ref C_Table) = some false) (sb3_Table : PySem.W.subIn K (.type "str") (.ref C_Table) = some false) (sb4_Table : PySem.W.subIn K (.type "list") (.ref C_Table) = some false) (sb5_Table : PySem.W.subIn K (.type "tuple") (.ref C_Table) = some false) (sb6_Table : PySem.W.subIn K (.type "dict") (.ref C_Table) = some false)
    (aC_NoText : PySem.W.nsIn K mainGlobals "NoText" = some (some (.ref C_NoText))) (xL_NoText : K.lookup C_NoText = some (excClassObj nm_NoText q_NoText C_NoText N_NoText bs_NoText [.type "ValueError", .type "Exception", .type "BaseException", .type "object"] true sn_NoText sb_NoText ab_NoText co_NoText dd_NoText m0_NoText m1_NoText m2_NoText m3_NoText m5_NoText "ValueError.__new__")) (sa_NoText : PySem.W.findIn K (.ref C_NoText) "__setattr__" = some (some (.builtin "object.__setattr__"))) (ga_NoText : PySem.W.findIn K (.ref C_NoText) "__getattribute__" = some (some (.builtin "BaseException.__getattribute__"))) (gg_NoText : PySem.W.findIn K (.ref C_NoText) "__getattr__" = some none) (nb_NoText : PySem.W.findIn K (.ref C_NoText) "row" = some none) (a1_NoText : PySem.W.findIn K (.ref C_NoText) "__init__" = some (some (.ref f_NoText___init__))) (t1_NoText : PySem.W.typeIn K (.ref f_NoText___init__) = some (.type "function")) (l_NoText___init__ : K.lookup f_NoText___init__ = some ⟨oc_NoText___init__, od_NoText___init__, .func (PySem.W.fnOf "__init__" "NoText.__init__" (defArgs st_NoText___init__) (defBody st_NoText___init__) (defScope st_NoText___init__) .none kV_NoText___init__ dc_NoText___init__ pm_NoText___init__ an_NoText___init__ cd_NoText___init__ ct_NoText___init__), sl_NoText___init__⟩) (c_NoText___init__ : PySem.W.codeIn K cd_NoText___init__ "NoText.__init__" = true) (k_NoText___init__ : PySem.W.keepIn K (.ref f_NoText___init__) = true) (kC_NoText : PySem.W.keepIn K (.ref C_NoText) = true) (eC_NoText : PySem.W.subIn K (.ref C_NoText) (.type "BaseException") = some true) (tC_NoText : PySem.W.typeIn K (.ref C_NoText) = some (.type "type")) (hC_NoText : PySem.W.hasDictIn K C_NoText = true) (iC_NoText : PySem.W.isClsIn K C_NoText = true) (sC_NoText : PySem.W.subIn K (.ref C_NoText) (.ref C_NoText) = some true) (sv_NoText : PySem.W.subIn K (.ref C_NoText) (.type "ValueError") = some true) (ha_NoText : PySem.W.findIn K (.ref C_NoText) "__class__" = some (some (.builtin "object.__class__"))) (hn_NoText : PySem.W.specialIn K (.builtin "object.__class__") "__get__" = some (some (.builtin "getset_descriptor.__get__"))) (ht_NoText : PySem.W.takesIn K (.builtin "object.__class__") = some true) (hm_NoText : PySem.W.mroIn K C_NoText (.type "object") = some true) (vV_NoText : PySem.W.findCls K (.type "ValueError") (.type "type") "__init__" = some (.val (.builtin "ValueError.__init__")))
    (a_l_pen : PySem.W.nsIn K mainGlobals "_law_pen" = some (some (.ref f_l_pen))) (l_l_pen : K.lookup f_l_pen = some ⟨oc_l_pen, od_l_pen, .func (PySem.W.fnOf "_law_pen" "_law_pen" (defArgs st_l_pen) (defBody st_l_pen) (defScope st_l_pen) .none kV_l_pen dc_l_pen pm_l_pen an_l_pen cd_l_pen ct_l_pen), sl_l_pen⟩) (c_l_pen : PySem.W.codeIn K cd_l_pen "_law_pen" = true) (k_l_pen : PySem.W.keepIn K (.ref f_l_pen) = true)
    (a_l_draw : PySem.W.nsIn K mainGlobals "_law_draw" = some (some (.ref f_l_draw))) (l_l_draw : K.lookup f_l_draw = some ⟨oc_l_draw, od_l_draw, .func (PySem.W.fnOf "_law_draw" "_law_draw" (defArgs st_l_draw) (defBody st_l_draw) (defScope st_l_draw) .none kV_l_draw dc_l_draw pm_l_draw an_l_draw cd_l_draw ct_l_draw), sl_l_draw⟩) (c_l_draw : PySem.W.codeIn K cd_l_draw "_law_draw" = true) (k_l_draw : PySem.W.keepIn K (.ref f_l_draw) = true)
    (a_l_pick : PySem.W.nsIn K mainGlobals "_law_pick" = some (some (.ref f_l_pick))) (l_l_pick : K.lookup f_l_pick = some ⟨oc_l_pick, od_l_pick, .func (PySem.W.fnOf "_law_pick" "_law_pick" (defArgs st_l_pick) (defBody st_l_pick) (defScope st_l_pick) .none kV_l_pick dc_l_pick pm_l_pick an_l_pick cd_l_pick ct_l_pick), sl_l_pick⟩) (c_l_pick : PySem.W.codeIn K cd_l_pick "_law_pick" = true) (k_l_pick : PySem.W.keepIn K (.ref f_l_pick) = true)
    (a_l_names : PySem.W.nsIn K mainGlobals "_law_names" = some (some (.ref f_l_names))) (l_l_names : K.lookup f_l_names = some ⟨oc_l_names, od_l_names, .func (PySem.W.fnOf "_law_names" "_law_names" (defArgs st_l_names) (defBody st_l_names) (defScope st_l_names) .none kV_l_names dc_l_names pm_l_names an_l_names cd_l_names ct_l_names), sl_l_names⟩) (c_l_names : PySem.W.codeIn K cd_l_names "_law_names" = true) (k_l_names : PySem.W.keepIn K (.ref f_l_names) = true)
    (a_l_scene : PySem.W.nsIn K mainGlobals "_law_scene" = some (some (.ref f_l_scene))) (l_l_scene : K.lookup f_l_scene = some ⟨oc_l_scene, od_l_scene, .func (PySem.W.fnOf "_law_scene" "_law_scene" (defArgs st_l_scene) (defBody st_l_scene) (defScope st_l_scene) .none kV_l_scene dc_l_scene pm_l_scene an_l_scene cd_l_scene ct_l_scene), sl_l_scene⟩) (c_l_scene : PySem.W.codeIn K cd_l_scene "_law_scene" = true) (k_l_scene : PySem.W.keepIn K (.ref f_l_scene) = true)
    (a_l_cell : PySem.W.nsIn K mainGlobals "_law_cell" = some (some (.ref f_l_cell))) (l_l_cell : K.lookup f_l_cell = some ⟨oc_l_cell, od_l_cell, .func (PySem.W.fnOf "_law_cell" "_law_cell" (defArgs st_l_cell) (defBody st_l_cell) (defScope st_l_cell) .none kV_l_cell dc_l_cell pm_l_cell an_l_cell cd_l_cell ct_l_cell), sl_l_cell⟩) (c_l_cell : PySem.W.codeIn K cd_l_cell "_law_cell" = true) (k_l_cell : PySem.W.keepIn K (.ref f_l_cell) = true)
    (a_l_rows : PySem.W.nsIn K mainGlobals "_law_rows" = some (some (.ref f_l_rows))) (l_l_rows : K.lookup f_l_rows = some ⟨oc_l_rows, od_l_rows, .func (PySem.W.fnOf "_law_rows" "_law_rows" (defArgs st_l_rows) (defBody st_l_rows) (defScope st_l_rows) .none kV_l_rows dc_l_rows pm_l_rows an_l_rows cd_l_rows ct_l_rows), sl_l_rows⟩) (c_l_rows : PySem.W.codeIn K cd_l_rows "_law_rows" = true) (k_l_rows : PySem.W.keepIn K (.ref f_l_rows) = true)
    (a_l_columns : PySem.W.nsIn K mainGlobals "_law_columns" = some (some (.ref f_l_columns))) (l_l_columns : K.lookup f_l_columns = some ⟨oc_l_columns, od_l_columns, .func (PySem.W.fnOf "_law_columns" "_law_columns" (defArgs st_l_columns) (defBody st_l_columns) (defScope st_l_columns) .none kV_l_columns dc_l_columns pm_l_columns an_l_columns cd_l_columns ct_l_columns), sl_l_columns⟩) (c_l_columns : PySem.W.codeIn K cd_l_columns "_law_columns" = true) (k_l_columns : PySem.W.keepIn K (.ref f_l_columns) = true)
    (a_l_odd : PySem.W.nsIn K mainGlobals "_law_odd" = some (some (.ref f_l_odd))) (l_l_odd : K.lookup f_l_odd = some ⟨oc_l_odd, od_l_odd, .func (PySem.W.fnOf "_law_odd" "_law_odd" (defArgs st_l_odd) (defBody st_l_odd) (defScope st_l_odd) .none kV_l_odd dc_l_odd pm_l_odd an_l_odd cd_l_odd ct_l_odd), sl_l_odd⟩) (c_l_odd : PySem.W.codeIn K cd_l_odd "_law_odd" = true) (k_l_odd : PySem.W.keepIn K (.ref f_l_odd) = true)
    (a_l_letters : PySem.W.nsIn K mainGlobals "_law_letters" = some (some (.ref f_l_letters))) (l_l_letters : K.lookup f_l_letters = some ⟨oc_l_letters, od_l_letters, .func (PySem.W.fnOf "_law_letters" "_law_letters" (defArgs st_l_letters) (defBody st_l_letters) (defScope st_l_letters) .none kV_l_letters dc_l_letters pm_l_letters an_l_letters cd_l_letters ct_l_letters), sl_l_letters⟩) (c_l_letters : PySem.W.codeIn K cd_l_letters "_law_letters" = true) (k_l_letters : PySem.W.keepIn K (.ref f_l_letters) = true)
    (a_l_written : PySem.W.nsIn K mainGlobals "_law_written" = some (some (.ref f_l_written))) (l_l_written : K.lookup f_l_written = some ⟨oc_l_written, od_l_written, .func (PySem.W.fnOf "_law_written" "_law_written" (defArgs st_l_written) (defBody st_l_written) (defScope st_l_written) .none kV_l_written dc_l_written pm_l_written an_l_written cd_l_written ct_l_written), sl_l_written⟩) (c_l_written : PySem.W.codeIn K cd_l_written "_law_written" = true) (k_l_written : PySem.W.keepIn K (.ref f_l_written) = true)
    (a_l_spoilt_text : PySem.W.nsIn K mainGlobals "_law_spoilt_text" = some (some (.ref f_l_spoilt_text))) (l_l_spoilt_text : K.lookup f_l_spoilt_text = some ⟨oc_l_spoilt_text, od_l_spoilt_text, .func (PySem.W.fnOf "_law_spoilt_text" "_law_spoilt_text" (defArgs st_l_spoilt_text) (defBody st_l_spoilt_text) (defScope st_l_spoilt_text) .none kV_l_spoilt_text dc_l_spoilt_text pm_l_spoilt_text an_l_spoilt_text cd_l_spoilt_text ct_l_spoilt_text), sl_l_spoilt_text⟩) (c_l_spoilt_text : PySem.W.codeIn K cd_l_spoilt_text "_law_spoilt_text" = true) (k_l_spoilt_text : PySem.W.keepIn K (.ref f_l_spoilt_text) = true)
    (a_l_cell_of_word : PySem.W.nsIn K mainGlobals "_law_cell_of_word" = some (some (.ref f_l_cell_of_word))) (l_l_cell_of_word : K.lookup f_l_cell_of_word = some ⟨oc_l_cell_of_word, od_l_cell_of_word, .func (PySem.W.fnOf "_law_cell_of_word" "_law_cell_of_word" (defArgs st_l_cell_of_word) (defBody st_l_cell_of_word) (defScope st_l_cell_of_word) .none kV_l_cell_of_word dc_l_cell_of_word pm_l_cell_of_word an_l_cell_of_word cd_l_cell_of_word ct_l_cell_of_word), sl_l_cell_of_word⟩) (c_l_cell_of_word : PySem.W.codeIn K cd_l_cell_of_word "_law_cell_of_word" = true) (k_l_cell_of_word : PySem.W.keepIn K (.ref f_l_cell_of_word) = true)
    (a_l_is_name : PySem.W.nsIn K mainGlobals "_law_is_name" = some (some (.ref f_l_is_name))) (l_l_is_name : K.lookup f_l_is_name = some ⟨oc_l_is_name, od_l_is_name, .func (PySem.W.fnOf "_law_is_name" "_law_is_name" (defArgs st_l_is_name) (defBody st_l_is_name) (defScope st_l_is_name) .none kV_l_is_name dc_l_is_name pm_l_is_name an_l_is_name cd_l_is_name ct_l_is_name), sl_l_is_name⟩) (c_l_is_name : PySem.W.codeIn K cd_l_is_name "_law_is_name" = true) (k_l_is_name : PySem.W.keepIn K (.ref f_l_is_name) = true)
    (a_l_table_text : PySem.W.nsIn K mainGlobals "_law_table_text" = some (some (.ref f_l_table_text))) (l_l_table_text : K.lookup f_l_table_text = some ⟨oc_l_table_text, od_l_table_text, .func (PySem.W.fnOf "_law_table_text" "_law_table_text" (defArgs st_l_table_text) (defBody st_l_table_text) (defScope st_l_table_text) .none kV_l_table_text dc_l_table_text pm_l_table_text an_l_table_text cd_l_table_text ct_l_table_text), sl_l_table_text⟩) (c_l_table_text : PySem.W.codeIn K cd_l_table_text "_law_table_text" = true) (k_l_table_text : PySem.W.keepIn K (.ref f_l_table_text) = true)
    (a_l_table_of : PySem.W.nsIn K mainGlobals "_law_table_of" = some (some (.ref f_l_table_of))) (l_l_table_of : K.lookup f_l_table_of = some ⟨oc_l_table_of, od_l_table_of, .func (PySem.W.fnOf "_law_table_of" "_law_table_of" (defArgs st_l_table_of) (defBody st_l_table_of) (defScope st_l_table_of) .none kV_l_table_of dc_l_table_of pm_l_table_of an_l_table_of cd_l_table_of ct_l_table_of), sl_l_table_of⟩) (c_l_table_of : PySem.W.codeIn K cd_l_table_of "_law_table_of" = true) (k_l_table_of : PySem.W.keepIn K (.ref f_l_table_of) = true)
    (a_l_rows_turned : PySem.W.nsIn K mainGlobals "_law_rows_turned" = some (some (.ref f_l_rows_turned))) (l_l_rows_turned : K.lookup f_l_rows_turned = some ⟨oc_l_rows_turned, od_l_rows_turned, .func (PySem.W.fnOf "_law_rows_turned" "_law_rows_turned" (defArgs st_l_rows_turned) (defBody st_l_rows_turned) (defScope st_l_rows_turned) .none kV_l_rows_turned dc_l_rows_turned pm_l_rows_turned an_l_rows_turned cd_l_rows_turned ct_l_rows_turned), sl_l_rows_turned⟩) (c_l_rows_turned : PySem.W.codeIn K cd_l_rows_turned "_law_rows_turned" = true) (k_l_rows_turned : PySem.W.keepIn K (.ref f_l_rows_turned) = true)
    (a_read_table : PySem.W.nsIn K mainGlobals "read_table" = some (some (.ref f_read_table))) (l_read_table : K.lookup f_read_table = some ⟨oc_read_table, od_read_table, .func (PySem.W.fnOf "read_table" "read_table" (defArgs st_read_table) (defBody st_read_table) (defScope st_read_table) .none kV_read_table dc_read_table pm_read_table an_read_table cd_read_table ct_read_table), sl_read_table⟩) (c_read_table : PySem.W.codeIn K cd_read_table "read_table" = true) (k_read_table : PySem.W.keepIn K (.ref f_read_table) = true)
    (a_read_heads : PySem.W.nsIn K mainGlobals "read_heads" = some (some (.ref f_read_heads))) (l_read_heads : K.lookup f_read_heads = some ⟨oc_read_heads, od_read_heads, .func (PySem.W.fnOf "read_heads" "read_heads" (defArgs st_read_heads) (defBody st_read_heads) (defScope st_read_heads) .none kV_read_heads dc_read_heads pm_read_heads an_read_heads cd_read_heads ct_read_heads), sl_read_heads⟩) (c_read_heads : PySem.W.codeIn K cd_read_heads "read_heads" = true) (k_read_heads : PySem.W.keepIn K (.ref f_read_heads) = true)
    (a_read_cells : PySem.W.nsIn K mainGlobals "read_cells" = some (some (.ref f_read_cells))) (l_read_cells : K.lookup f_read_cells = some ⟨oc_read_cells, od_read_cells, .func (PySem.W.fnOf "read_cells" "read_cells" (defArgs st_read_cells) (defBody st_read_cells) (defScope st_read_cells) .none kV_read_cells dc_read_cells pm_read_cells an_read_cells cd_read_cells ct_read_cells), sl_read_cells⟩) (c_read_cells : PySem.W.codeIn K cd_read_cells "read_cells" = true) (k_read_cells : PySem.W.keepIn K (.ref f_read_cells) = true)
    (a_read_word : PySem.W.nsIn K mainGlobals "read_word" = some (some (.ref f_read_word))) (l_read_word : K.lookup f_read_word = some ⟨oc_read_word, od_read_word, .func (PySem.W.fnOf "read_word" "read_word" (defArgs st_read_word) (defBody st_read_word) (defScope st_read_word) .none kV_read_word dc_read_word pm_read_word an_read_word cd_read_word ct_read_word), sl_read_word⟩) (c_read_word : PySem.W.codeIn K cd_read_word "read_word" = true) (k_read_word : PySem.W.keepIn K (.ref f_read_word) = true)
    (a_is_name : PySem.W.nsIn K mainGlobals "is_name" = some (some (.ref f_is_name))) (l_is_name : K.lookup f_is_name = some ⟨oc_is_name, od_is_name, .func (PySem.W.fnOf "is_name" "is_name" (defArgs st_is_name) (defBody st_is_name) (defScope st_is_name) .none kV_is_name dc_is_name pm_is_name an_is_name cd_is_name ct_is_name), sl_is_name⟩) (c_is_name : PySem.W.codeIn K cd_is_name "is_name" = true) (k_is_name : PySem.W.keepIn K (.ref f_is_name) = true)
    (a_is_word : PySem.W.nsIn K mainGlobals "is_word" = some (some (.ref f_is_word))) (l_is_word : K.lookup f_is_word = some ⟨oc_is_word, od_is_word, .func (PySem.W.fnOf "is_word" "is_word" (defArgs st_is_word) (defBody st_is_word) (defScope st_is_word) .none kV_is_word dc_is_word pm_is_word an_is_word cd_is_word ct_is_word), sl_is_word⟩) (c_is_word : PySem.W.codeIn K cd_is_word "is_word" = true) (k_is_word : PySem.W.keepIn K (.ref f_is_word) = true)
    (a_Table___init__ : PySem.W.findIn K (.ref C_Table) "__init__" = some (some (.ref f_Table___init__))) (i_Table___init__ : PySem.W.isFn K (.ref f_Table___init__) = true) (l_Table___init__ : K.lookup f_Table___init__ = some ⟨oc_Table___init__, od_Table___init__, .func (PySem.W.fnOf "__init__" "Table.__init__" (defArgs st_Table___init__) (defBody st_Table___init__) (defScope st_Table___init__) (.ref T_Table___init__) kV_Table___init__ dc_Table___init__ pm_Table___init__ an_Table___init__ cd_Table___init__ ct_Table___init__), sl_Table___init__⟩) (c_Table___init__ : PySem.W.codeIn K cd_Table___init__ "Table.__init__" = true) (k_Table___init__ : PySem.W.keepIn K (.ref f_Table___init__) = true) (lT_Table___init__ : K.lookup T_Table___init__ = some ⟨ocT_Table___init__, odT_Table___init__, .seq #[.ref E_Table_0] nT_Table___init__, slT_Table___init__⟩)
    (a_Table_columns : PySem.W.findIn K (.ref C_Table) "columns" = some (some (.ref f_Table_columns))) (i_Table_columns : PySem.W.isFn K (.ref f_Table_columns) = true) (l_Table_columns : K.lookup f_Table_columns = some ⟨oc_Table_columns, od_Table_columns, .func (PySem.W.fnOf "columns" "Table.columns" (defArgs st_Table_columns) (defBody st_Table_columns) (defScope st_Table_columns) .none kV_Table_columns dc_Table_columns pm_Table_columns an_Table_columns cd_Table_columns ct_Table_columns), sl_Table_columns⟩) (c_Table_columns : PySem.W.codeIn K cd_Table_columns "Table.columns" = true) (k_Table_columns : PySem.W.keepIn K (.ref f_Table_columns) = true)
    (a_Table_rows : PySem.W.findIn K (.ref C_Table) "rows" = some (some (.ref f_Table_rows))) (i_Table_rows : PySem.W.isFn K (.ref f_Table_rows) = true) (l_Table_rows : K.lookup f_Table_rows = some ⟨oc_Table_rows, od_Table_rows, .func (PySem.W.fnOf "rows" "Table.rows" (defArgs st_Table_rows) (defBody st_Table_rows) (defScope st_Table_rows) .none kV_Table_rows dc_Table_rows pm_Table_rows an_Table_rows cd_Table_rows ct_Table_rows), sl_Table_rows⟩) (c_Table_rows : PySem.W.codeIn K cd_Table_rows "Table.rows" = true) (k_Table_rows : PySem.W.keepIn K (.ref f_Table_rows) = true)
    (a_l_refused_row : PySem.W.nsIn K mainGlobals "_law_refused_row" = some (some (.ref f_l_refused_row))) (l_l_refused_row : K.lookup f_l_refused_row = some ⟨oc_l_refused_row, od_l_refused_row, .func (PySem.W.fnOf "_law_refused_row" "_law_refused_row" (defArgs st_l_refused_row) (defBody st_l_refused_row) (defScope st_l_refused_row) .none kV_l_refused_row dc_l_refused_row pm_l_refused_row an_l_refused_row cd_l_refused_row ct_l_refused_row), sl_l_refused_row⟩) (c_l_refused_row : PySem.W.codeIn K cd_l_refused_row "_law_refused_row" = true) (k_l_refused_row : PySem.W.keepIn K (.ref f_l_refused_row) = true)
    (z_ValueError : PySem.W.nsIn K mainGlobals "ValueError" = some none)
    (z_abs : PySem.W.nsIn K mainGlobals "abs" = some none)
    (z_all : PySem.W.nsIn K mainGlobals "all" = some none)
    (z_enumerate : PySem.W.nsIn K mainGlobals "enumerate" = some none)
    (z_int : PySem.W.nsIn K mainGlobals "int" = some none)
    (z_isinstance : PySem.W.nsIn K mainGlobals "isinstance" = some none)
    (z_len : PySem.W.nsIn K mainGlobals "len" = some none)
    (z_list : PySem.W.nsIn K mainGlobals "list" = some none)
    (z_range : PySem.W.nsIn K mainGlobals "range" = some none)
    (z_repr : PySem.W.nsIn K mainGlobals "repr" = some none)
    (z_set : PySem.W.nsIn K mainGlobals "set" = some none)
    (z_str : PySem.W.nsIn K mainGlobals "str" = some none)
    (z_tuple : PySem.W.nsIn K mainGlobals "tuple" = some none)
    (q_LETTERS : PySem.W.nsIn K mainGlobals "LETTERS" = some (some (.str "abcdefghijklmnopqrstuvwxyz" t_LETTERS)))
    (q_FIGURES : PySem.W.nsIn K mainGlobals "FIGURES" = some (some (.str "0123456789" t_FIGURES)))
    (q_MOST_LETTERS : PySem.W.nsIn K mainGlobals "MOST_LETTERS" = some (some (.int 12 t_MOST_LETTERS)))
    (q_MOST_COLUMNS : PySem.W.nsIn K mainGlobals "MOST_COLUMNS" = some (some (.int 6 t_MOST_COLUMNS)))
    (q_MOST_ROWS : PySem.W.nsIn K mainGlobals "MOST_ROWS" = some (some (.int 60 t_MOST_ROWS))) :
    ∃ fd : FuncData, (∀ (s : Shared) (v : Value), BindsTo s fd ⟨[v], []⟩ [("_law_script", v)]) ∧ ∀ base : Heap, K.In base → base.Ns mainGlobals mg → BaseS base → LamX.TabB base mg c_law P_law → FnG l.prog w K mg base CX0 7 fa fd ["_law_script"] (lawSpT K P_law) := by
  have e := hfa.symm.trans (PySem.W.mg_of X G a_law)
  have e2 : f_law = fa := (Value.ref.inj (Option.some.inj e)).symm
  subst e2
  have ec : cd_law = .ref c_law := tab_code a_law l_law htab
  subst ec
  have T : Tb mg := ⟨PySem.W.mg_none_of X G z_ValueError, PySem.W.mg_none_of X G z_abs, PySem.W.mg_none_of X G z_all, PySem.W.mg_none_of X G z_enumerate, PySem.W.mg_none_of X G z_int, PySem.W.mg_none_of X G z_isinstance, PySem.W.mg_none_of X G z_len, PySem.W.mg_none_of X G z_list, PySem.W.mg_none_of X G z_range, PySem.W.mg_none_of X G z_repr, PySem.W.mg_none_of X G z_set, PySem.W.mg_none_of X G z_str, PySem.W.mg_none_of X G z_tuple, ⟨_, PySem.W.mg_of X G q_LETTERS⟩, ⟨_, PySem.W.mg_of X G q_FIGURES⟩, ⟨_, PySem.W.mg_of X G q_MOST_LETTERS⟩, ⟨_, PySem.W.mg_of X G q_MOST_COLUMNS⟩, ⟨_, PySem.W.mg_of X G q_MOST_ROWS⟩⟩
  have sbs_Table := subs_all sb0_Table sb1_Table sb2_Table sb3_Table sb4_Table sb5_Table sb6_Table
  have T_Table : Tc_Table K mg C_Table := ⟨⟨pg_Table, hd_Table, po_Table, sa_Table⟩, PySem.W.mg_of X G aC_Table, ⟨ica_Table, icn_Table, ict_Table, icm_Table⟩, .of sbs_Table, .of sbs_Table icc_Table icy_Table, na_Table_heads, na_Table_lines⟩
  have F_NoText___init__ := fun_mk (x := "__init__") (qual := "NoText.__init__") (st := st_NoText___init__) l_NoText___init__ c_NoText___init__ k_NoText___init__
  have X_NoText : ∀ base : Heap, Xk l.prog w K mg base "NoText" C_NoText "row" := fun base => ⟨⟨PySem.W.mg_of X G aC_NoText, ⟨⟨_, _, _, _, _, _, _, _, _, _, _, _, _, _, _, xL_NoText, by decide +kernel⟩, sa_NoText, eC_NoText, tC_NoText, kC_NoText⟩, _, _, ["self", "row"], a1_NoText, t1_NoText, F_NoText___init__.binds (ps := ["self", "row"]) (fun _ _ _ _ _ _ us hl => match us, hl with | [_, _], _ => rfl), ok_NoText___init__ F_NoText___init__ T.ValueError vV_NoText ⟨⟨_, _, _, _, _, _, _, _, _, _, _, _, _, _, _, xL_NoText, by decide +kernel⟩, sa_NoText, eC_NoText, tC_NoText, kC_NoText⟩ nb_NoText⟩, ⟨ga_NoText, gg_NoText, eC_NoText, hC_NoText⟩, nb_NoText, ⟨ga_NoText, gg_NoText, eC_NoText, hC_NoText, ha_NoText, hn_NoText, ht_NoText, hm_NoText⟩, exm_self eC_NoText iC_NoText tC_NoText sC_NoText, kit_ve (by decide +kernel) sv_NoText⟩
  have F_l_pen := fun_mk (st := st_l_pen) l_l_pen c_l_pen k_l_pen
  have D_l_pen : Df K mg "_law_pen" st_l_pen ["_law_script"] f_l_pen _ := ⟨F_l_pen, PySem.W.mg_of X G a_l_pen, F_l_pen.binds (ps := ["_law_script"]) fun _ _ _ _ _ _ us hl => match us, hl with | [_], _ => rfl⟩
  have F_l_draw := fun_mk (st := st_l_draw) l_l_draw c_l_draw k_l_draw
  have D_l_draw : Df K mg "_law_draw" st_l_draw ["_law_pen_here", "_law_many"] f_l_draw _ := ⟨F_l_draw, PySem.W.mg_of X G a_l_draw, F_l_draw.binds (ps := ["_law_pen_here", "_law_many"]) fun _ _ _ _ _ _ us hl => match us, hl with | [_, _], _ => rfl⟩
  have F_l_pick := fun_mk (st := st_l_pick) l_l_pick c_l_pick k_l_pick
  have D_l_pick : Df K mg "_law_pick" st_l_pick ["_law_pen_here", "_law_some"] f_l_pick _ := ⟨F_l_pick, PySem.W.mg_of X G a_l_pick, F_l_pick.binds (ps := ["_law_pen_here", "_law_some"]) fun _ _ _ _ _ _ us hl => match us, hl with | [_, _], _ => rfl⟩
  have F_l_names := fun_mk (st := st_l_names) l_l_names c_l_names k_l_names
  have D_l_names : Df K mg "_law_names" st_l_names ["_law_pen_here", "_law_many"] f_l_names _ := ⟨F_l_names, PySem.W.mg_of X G a_l_names, F_l_names.binds (ps := ["_law_pen_here", "_law_many"]) fun _ _ _ _ _ _ us hl => match us, hl with | [_, _], _ => rfl⟩
  have F_l_scene := fun_mk (st := st_l_scene) l_l_scene c_l_scene k_l_scene
  have D_l_scene : Df K mg "_law_scene" st_l_scene ["_law_pen_here"] f_l_scene _ := ⟨F_l_scene, PySem.W.mg_of X G a_l_scene, F_l_scene.binds (ps := ["_law_pen_here"]) fun _ _ _ _ _ _ us hl => match us, hl with | [_], _ => rfl⟩
  have F_l_cell := fun_mk (st := st_l_cell) l_l_cell c_l_cell k_l_cell
  have D_l_cell : Df K mg "_law_cell" st_l_cell ["_law_pen_here"] f_l_cell _ := ⟨F_l_cell, PySem.W.mg_of X G a_l_cell, F_l_cell.binds (ps := ["_law_pen_here"]) fun _ _ _ _ _ _ us hl => match us, hl with | [_], _ => rfl⟩
  have F_l_rows := fun_mk (st := st_l_rows) l_l_rows c_l_rows k_l_rows
  have D_l_rows : Df K mg "_law_rows" st_l_rows ["_law_pen_here", "_law_wide", "_law_many"] f_l_rows _ := ⟨F_l_rows, PySem.W.mg_of X G a_l_rows, F_l_rows.binds (ps := ["_law_pen_here", "_law_wide", "_law_many"]) fun _ _ _ _ _ _ us hl => match us, hl with | [_, _, _], _ => rfl⟩
  have F_l_columns := fun_mk (st := st_l_columns) l_l_columns c_l_columns k_l_columns
  have D_l_columns : Df K mg "_law_columns" st_l_columns ["_law_pen_here", "_law_scene_here", "_law_most"] f_l_columns _ := ⟨F_l_columns, PySem.W.mg_of X G a_l_columns, F_l_columns.binds (ps := ["_law_pen_here", "_law_scene_here", "_law_most"]) fun _ _ _ _ _ _ us hl => match us, hl with | [_, _, _], _ => rfl⟩
  have F_l_odd := fun_mk (st := st_l_odd) l_l_odd c_l_odd k_l_odd
  have D_l_odd : Df K mg "_law_odd" st_l_odd ["_law_pen_here", "_law_deep"] f_l_odd _ := ⟨F_l_odd, PySem.W.mg_of X G a_l_odd, F_l_odd.binds (ps := ["_law_pen_here", "_law_deep"]) fun _ _ _ _ _ _ us hl => match us, hl with | [_, _], _ => rfl⟩
  have F_l_letters := fun_mk (st := st_l_letters) l_l_letters c_l_letters k_l_letters
  have D_l_letters : Df K mg "_law_letters" st_l_letters ["_law_thing", "_law_most"] f_l_letters _ := ⟨F_l_letters, PySem.W.mg_of X G a_l_letters, F_l_letters.binds (ps := ["_law_thing", "_law_most"]) fun _ _ _ _ _ _ us hl => match us, hl with | [_, _], _ => rfl⟩
  have F_l_written := fun_mk (st := st_l_written) l_l_written c_l_written k_l_written
  have D_l_written : Df K mg "_law_written" st_l_written ["_law_thing"] f_l_written _ := ⟨F_l_written, PySem.W.mg_of X G a_l_written, F_l_written.binds (ps := ["_law_thing"]) fun _ _ _ _ _ _ us hl => match us, hl with | [_], _ => rfl⟩
  have F_l_spoilt_text := fun_mk (st := st_l_spoilt_text) l_l_spoilt_text c_l_spoilt_text k_l_spoilt_text
  have D_l_spoilt_text : Df K mg "_law_spoilt_text" st_l_spoilt_text ["_law_pen_here", "_law_text"] f_l_spoilt_text _ := ⟨F_l_spoilt_text, PySem.W.mg_of X G a_l_spoilt_text, F_l_spoilt_text.binds (ps := ["_law_pen_here", "_law_text"]) fun _ _ _ _ _ _ us hl => match us, hl with | [_, _], _ => rfl⟩
  have F_l_cell_of_word := fun_mk (st := st_l_cell_of_word) l_l_cell_of_word c_l_cell_of_word k_l_cell_of_word
  have D_l_cell_of_word : Df K mg "_law_cell_of_word" st_l_cell_of_word ["_law_word"] f_l_cell_of_word _ := ⟨F_l_cell_of_word, PySem.W.mg_of X G a_l_cell_of_word, F_l_cell_of_word.binds (ps := ["_law_word"]) fun _ _ _ _ _ _ us hl => match us, hl with | [_], _ => rfl⟩
  have F_l_is_name := fun_mk (st := st_l_is_name) l_l_is_name c_l_is_name k_l_is_name
  have D_l_is_name : Df K mg "_law_is_name" st_l_is_name ["_law_thing"] f_l_is_name _ := ⟨F_l_is_name, PySem.W.mg_of X G a_l_is_name, F_l_is_name.binds (ps := ["_law_thing"]) fun _ _ _ _ _ _ us hl => match us, hl with | [_], _ => rfl⟩
  have F_l_table_text := fun_mk (st := st_l_table_text) l_l_table_text c_l_table_text k_l_table_text
  have D_l_table_text : Df K mg "_law_table_text" st_l_table_text ["_law_columns_here", "_law_rows_here"] f_l_table_text _ := ⟨F_l_table_text, PySem.W.mg_of X G a_l_table_text, F_l_table_text.binds (ps := ["_law_columns_here", "_law_rows_here"]) fun _ _ _ _ _ _ us hl => match us, hl with | [_, _], _ => rfl⟩
  have F_l_table_of := fun_mk (st := st_l_table_of) l_l_table_of c_l_table_of k_l_table_of
  have D_l_table_of : Df K mg "_law_table_of" st_l_table_of ["_law_text"] f_l_table_of _ := ⟨F_l_table_of, PySem.W.mg_of X G a_l_table_of, F_l_table_of.binds (ps := ["_law_text"]) fun _ _ _ _ _ _ us hl => match us, hl with | [_], _ => rfl⟩
  have F_l_rows_turned := fun_mk (st := st_l_rows_turned) l_l_rows_turned c_l_rows_turned k_l_rows_turned
  have D_l_rows_turned : Df K mg "_law_rows_turned" st_l_rows_turned ["_law_pen_here", "_law_text"] f_l_rows_turned _ := ⟨F_l_rows_turned, PySem.W.mg_of X G a_l_rows_turned, F_l_rows_turned.binds (ps := ["_law_pen_here", "_law_text"]) fun _ _ _ _ _ _ us hl => match us, hl with | [_, _], _ => rfl⟩
  have F_read_table := fun_mk (st := st_read_table) l_read_table c_read_table k_read_table
  have D_read_table : Df K mg "read_table" st_read_table ["text"] f_read_table _ := ⟨F_read_table, PySem.W.mg_of X G a_read_table, F_read_table.binds (ps := ["text"]) fun _ _ _ _ _ _ us hl => match us, hl with | [_], _ => rfl⟩
  have F_read_heads := fun_mk (st := st_read_heads) l_read_heads c_read_heads k_read_heads
  have D_read_heads : Df K mg "read_heads" st_read_heads ["row"] f_read_heads _ := ⟨F_read_heads, PySem.W.mg_of X G a_read_heads, F_read_heads.binds (ps := ["row"]) fun _ _ _ _ _ _ us hl => match us, hl with | [_], _ => rfl⟩
  have F_read_cells := fun_mk (st := st_read_cells) l_read_cells c_read_cells k_read_cells
  have D_read_cells : Df K mg "read_cells" st_read_cells ["row", "many"] f_read_cells _ := ⟨F_read_cells, PySem.W.mg_of X G a_read_cells, F_read_cells.binds (ps := ["row", "many"]) fun _ _ _ _ _ _ us hl => match us, hl with | [_, _], _ => rfl⟩
  have F_read_word := fun_mk (st := st_read_word) l_read_word c_read_word k_read_word
  have D_read_word : Df K mg "read_word" st_read_word ["word"] f_read_word _ := ⟨F_read_word, PySem.W.mg_of X G a_read_word, F_read_word.binds (ps := ["word"]) fun _ _ _ _ _ _ us hl => match us, hl with | [_], _ => rfl⟩
  have F_is_name := fun_mk (st := st_is_name) l_is_name c_is_name k_is_name
  have D_is_name : Df K mg "is_name" st_is_name ["thing"] f_is_name _ := ⟨F_is_name, PySem.W.mg_of X G a_is_name, F_is_name.binds (ps := ["thing"]) fun _ _ _ _ _ _ us hl => match us, hl with | [_], _ => rfl⟩
  have F_is_word := fun_mk (st := st_is_word) l_is_word c_is_word k_is_word
  have D_is_word : Df K mg "is_word" st_is_word ["thing", "most"] f_is_word _ := ⟨F_is_word, PySem.W.mg_of X G a_is_word, F_is_word.binds (ps := ["thing", "most"]) fun _ _ _ _ _ _ us hl => match us, hl with | [_, _], _ => rfl⟩
  have F_Table___init__ : FunD K "__init__" "Table.__init__" (defArgs st_Table___init__) (defBody st_Table___init__) (defScope st_Table___init__) [V.ref E_Table_0] [] f_Table___init__ _ := ⟨⟨_, _, _, _, _, _, _, _, _, _, rfl, l_Table___init__, c_Table___init__, .inr ⟨(fun z => by cases z), T_Table___init__, _, _, _, rfl, lT_Table___init__, rfl, (.cons rfl .nil)⟩, .inl rfl⟩, k_Table___init__⟩
  have D_Table___init__ : Dk K mg "Table" C_Table "Table.__init__" st_Table___init__ ["self", "columns", "rows"] [V.ref E_Table_0] f_Table___init__ _ := ⟨F_Table___init__, ⟨mk_Table, a_Table___init__, i_Table___init__, kc_Table⟩, PySem.W.mg_of X G aC_Table, (by
    obtain ⟨ds, hv, b⟩ := F_Table___init__.binds1 (ps := ["self", "columns", "rows"]) 3 1 (fun z => by cases z) rfl (fun _ _ _ _ _ _ _ us its hl hi => match us, its, hl, hi with | [u0, u1, u2], [i0], _, _ => ⟨_, rfl, rfl⟩)
    cases hv
    exact b)⟩
  have F_Table_columns := fun_mk (x := "columns") (qual := "Table.columns") (st := st_Table_columns) l_Table_columns c_Table_columns k_Table_columns
  have D_Table_columns : Dm K C_Table "columns" "Table.columns" st_Table_columns ["self"] f_Table_columns _ := ⟨F_Table_columns, ⟨a_Table_columns, i_Table_columns, k_Table_columns⟩, F_Table_columns.binds (ps := ["self"]) fun _ _ _ _ _ _ us hl => match us, hl with | [_], _ => rfl⟩
  have F_Table_rows := fun_mk (x := "rows") (qual := "Table.rows") (st := st_Table_rows) l_Table_rows c_Table_rows k_Table_rows
  have D_Table_rows : Dm K C_Table "rows" "Table.rows" st_Table_rows ["self"] f_Table_rows _ := ⟨F_Table_rows, ⟨a_Table_rows, i_Table_rows, k_Table_rows⟩, F_Table_rows.binds (ps := ["self"]) fun _ _ _ _ _ _ us hl => match us, hl with | [_], _ => rfl⟩
  have F_l_refused_row := fun_mk (st := st_l_refused_row) l_l_refused_row c_l_refused_row k_l_refused_row
  have D_l_refused_row : Df K mg "_law_refused_row" st_l_refused_row ["_law_call"] f_l_refused_row _ := ⟨F_l_refused_row, PySem.W.mg_of X G a_l_refused_row, F_l_refused_row.binds (ps := ["_law_call"]) fun _ _ _ _ _ _ us hl => match us, hl with | [_], _ => rfl⟩
  have FC_law : FunC K "law" "law" st_law f_law c_law _ := ⟨⟨_, _, _, _, _, _, _, _, rfl, l_law, c_law1⟩⟩
  exact ⟨_, fun s v => .of_eq rfl, fun base _ _ hbs TB => ok_law T_Table (X_NoText base) D_l_pen D_l_draw D_l_pick D_l_names D_l_scene D_l_cell D_l_rows D_l_columns D_l_odd D_l_letters D_l_written D_l_spoilt_text D_l_cell_of_word D_l_is_name D_l_table_text D_l_table_of D_l_rows_turned D_read_table D_read_heads D_read_cells D_read_word D_is_name D_is_word D_Table___init__ D_Table_columns D_Table_rows FC_law l_l_refused_row c_l_refused_row D_l_refused_row T hbs TB⟩
end Law
open PySem PySem.W PyProof.Rows
set_option maxRecDepth 100000 in
set_option maxHeartbeats 0 in
theorem PySem.Challenge.cw_tablekin_k07_whole_texts_of_no_table_holds : PySem.Challenge.rw_tablekin_k07_whole_texts_of_no_table.Holds := by
  w_on; o_law; k_head; (case hw => w_witness2)
  k_fill
  refine Tk.walkT (l := PySem.Challenge.rw_tablekin_k07_whole_texts_of_no_table) (k := 7) (x := "_law_script") rfl (by decide) rfl ⟨rfl, by decide, by decide⟩ rfl (fun w h Y => PySem.W.km_in_of Y) rfl ?S ?F
  case S => intro w; kernel_rfl
  case F =>
    intro w mg fa h c P KX G hmg ht
    refine' Law.all_mk KX G hmg ht ?a_law ?l_law ?c_law1 ?k_law ?aC_Table ?pg_Table ?hd_Table ?po_Table ?sa_Table ?mk_Table ?kc_Table ?na_Table_heads ?na_Table_lines ?ica_Table ?icn_Table ?ict_Table ?icm_Table ?icc_Table ?icy_Table ?sb0_Table ?sb1_Table ?sb2_Table ?sb3_Table ?sb4_Table ?sb5_Table ?sb6_Table ?aC_NoText ?xL_NoText ?sa_NoText ?ga_NoText ?gg_NoText ?nb_NoText ?a1_NoText ?t1_NoText ?l_NoText___init__ ?c_NoText___init__ ?k_NoText___init__ ?kC_NoText ?eC_NoText ?tC_NoText ?hC_NoText ?iC_NoText ?sC_NoText ?sv_NoText ?ha_NoText ?hn_NoText ?ht_NoText ?hm_NoText ?vV_NoText ?a_l_pen ?l_l_pen ?c_l_pen ?k_l_pen ?a_l_draw ?l_l_draw ?c_l_draw ?k_l_draw ?a_l_pick ?l_l_pick ?c_l_pick ?k_l_pick ?a_l_names ?l_l_names ?c_l_names ?k_l_names ?a_l_scene ?l_l_scene ?c_l_scene ?k_l_scene ?a_l_cell ?l_l_cell ?c_l_cell ?k_l_cell ?a_l_rows ?l_l_rows ?c_l_rows ?k_l_rows ?a_l_columns ?l_l_columns ?c_l_columns ?k_l_columns ?a_l_odd ?l_l_odd ?c_l_odd ?k_l_odd ?a_l_letters ?l_l_letters ?c_l_letters ?k_l_letters ?a_l_written ?l_l_written ?c_l_written ?k_l_written ?a_l_spoilt_text ?l_l_spoilt_text ?c_l_spoilt_text ?k_l_spoilt_text ?a_l_cell_of_word ?l_l_cell_of_word ?c_l_cell_of_word ?k_l_cell_of_word ?a_l_is_name ?l_l_is_name ?c_l_is_name ?k_l_is_name ?a_l_table_text ?l_l_table_text ?c_l_table_text ?k_l_table_text ?a_l_table_of ?l_l_table_of ?c_l_table_of ?k_l_table_of ?a_l_rows_turned ?l_l_rows_turned ?c_l_rows_turned ?k_l_rows_turned ?a_read_table ?l_read_table ?c_read_table ?k_read_table ?a_read_heads ?l_read_heads ?c_read_heads ?k_read_heads ?a_read_cells ?l_read_cells ?c_read_cells ?k_read_cells ?a_read_word ?l_read_word ?c_read_word ?k_read_word ?a_is_name ?l_is_name ?c_is_name ?k_is_name ?a_is_word ?l_is_word ?c_is_word ?k_is_word ?a_Table___init__ ?i_Table___init__ ?l_Table___init__ ?c_Table___init__ ?k_Table___init__ ?lT_Table___init__ ?a_Table_columns ?i_Table_columns ?l_Table_columns ?c_Table_columns ?k_Table_columns ?a_Table_rows ?i_Table_rows ?l_Table_rows ?c_Table_rows ?k_Table_rows ?a_l_refused_row ?l_l_refused_row ?c_l_refused_row ?k_l_refused_row ?z_ValueError ?z_abs ?z_all ?z_enumerate ?z_int ?z_isinstance ?z_len ?z_list ?z_range ?z_repr ?z_set ?z_str ?z_tuple ?q_LETTERS ?q_FIGURES ?q_MOST_LETTERS ?q_MOST_COLUMNS ?q_MOST_ROWS
    (case a_law => k_is); (case l_law => k_is); (case c_law1 => k_is); (case k_law => k_is); (case aC_Table => k_is); (case pg_Table => k_is)
    (case hd_Table => k_is); (case po_Table => k_is); (case sa_Table => k_is); (case mk_Table => k_is); (case kc_Table => k_is); (case na_Table_heads => k_is)
    (case na_Table_lines => k_is); (case ica_Table => k_is); (case icn_Table => k_is); (case ict_Table => k_is); (case icm_Table => k_is); (case icc_Table => k_is)
    (case icy_Table => k_is); (case sb0_Table => k_is); (case sb1_Table => k_is); (case sb2_Table => k_is); (case sb3_Table => k_is); (case sb4_Table => k_is)
    (case sb5_Table => k_is); (case sb6_Table => k_is); (case aC_NoText => k_is); (case xL_NoText => k_is); (case sa_NoText => k_is); (case ga_NoText => k_is)
    (case gg_NoText => k_is); (case nb_NoText => k_is); (case a1_NoText => k_is); (case t1_NoText => k_is); (case l_NoText___init__ => k_is); (case c_NoText___init__ => k_is)
    (case k_NoText___init__ => k_is); (case kC_NoText => k_is); (case eC_NoText => k_is); (case tC_NoText => k_is); (case hC_NoText => k_is); (case iC_NoText => k_is)
    (case sC_NoText => first | rfl | k_is); (case sv_NoText => k_is); (case ha_NoText => k_is); (case hn_NoText => k_is); (case ht_NoText => k_is); (case hm_NoText => k_is)
    (case vV_NoText => first | k_is | kernel_rfl); (case a_l_pen => k_is); (case l_l_pen => k_is); (case c_l_pen => k_is); (case k_l_pen => k_is); (case a_l_draw => k_is)
    (case l_l_draw => k_is); (case c_l_draw => k_is); (case k_l_draw => k_is); (case a_l_pick => k_is); (case l_l_pick => k_is); (case c_l_pick => k_is)
    (case k_l_pick => k_is); (case a_l_names => k_is); (case l_l_names => k_is); (case c_l_names => k_is); (case k_l_names => k_is); (case a_l_scene => k_is)
    (case l_l_scene => k_is); (case c_l_scene => k_is); (case k_l_scene => k_is); (case a_l_cell => k_is); (case l_l_cell => k_is); (case c_l_cell => k_is)
    (case k_l_cell => k_is); (case a_l_rows => k_is); (case l_l_rows => k_is); (case c_l_rows => k_is); (case k_l_rows => k_is); (case a_l_columns => k_is)
    (case l_l_columns => k_is); (case c_l_columns => k_is); (case k_l_columns => k_is); (case a_l_odd => k_is); (case l_l_odd => k_is); (case c_l_odd => k_is)
    (case k_l_odd => k_is); (case a_l_letters => k_is); (case l_l_letters => k_is); (case c_l_letters => k_is); (case k_l_letters => k_is); (case a_l_written => k_is)
    (case l_l_written => k_is); (case c_l_written => k_is); (case k_l_written => k_is); (case a_l_spoilt_text => k_is); (case l_l_spoilt_text => k_is); (case c_l_spoilt_text => k_is)
    (case k_l_spoilt_text => k_is); (case a_l_cell_of_word => k_is); (case l_l_cell_of_word => k_is); (case c_l_cell_of_word => k_is); (case k_l_cell_of_word => k_is); (case a_l_is_name => k_is)
    (case l_l_is_name => k_is); (case c_l_is_name => k_is); (case k_l_is_name => k_is); (case a_l_table_text => k_is); (case l_l_table_text => k_is); (case c_l_table_text => k_is)
    (case k_l_table_text => k_is); (case a_l_table_of => k_is); (case l_l_table_of => k_is); (case c_l_table_of => k_is); (case k_l_table_of => k_is); (case a_l_rows_turned => k_is)
    (case l_l_rows_turned => k_is); (case c_l_rows_turned => k_is); (case k_l_rows_turned => k_is); (case a_read_table => k_is); (case l_read_table => k_is); (case c_read_table => k_is)
    (case k_read_table => k_is); (case a_read_heads => k_is); (case l_read_heads => k_is); (case c_read_heads => k_is); (case k_read_heads => k_is); (case a_read_cells => k_is)
    (case l_read_cells => k_is); (case c_read_cells => k_is); (case k_read_cells => k_is); (case a_read_word => k_is); (case l_read_word => k_is); (case c_read_word => k_is)
    (case k_read_word => k_is); (case a_is_name => k_is); (case l_is_name => k_is); (case c_is_name => k_is); (case k_is_name => k_is); (case a_is_word => k_is)
    (case l_is_word => k_is); (case c_is_word => k_is); (case k_is_word => k_is); (case a_Table___init__ => k_is); (case i_Table___init__ => k_is); (case l_Table___init__ => k_is)
    (case c_Table___init__ => k_is); (case k_Table___init__ => k_is); (case lT_Table___init__ => k_is); (case a_Table_columns => k_is); (case i_Table_columns => k_is); (case l_Table_columns => k_is)
    (case c_Table_columns => k_is); (case k_Table_columns => k_is); (case a_Table_rows => k_is); (case i_Table_rows => k_is); (case l_Table_rows => k_is); (case c_Table_rows => k_is)
    (case k_Table_rows => k_is); (case a_l_refused_row => k_is); (case l_l_refused_row => k_is); (case c_l_refused_row => k_is); (case k_l_refused_row => k_is); (case z_ValueError => k_is)
    (case z_abs => k_is); (case z_all => k_is); (case z_enumerate => k_is); (case z_int => k_is); (case z_isinstance => k_is); (case z_len => k_is)
    (case z_list => k_is); (case z_range => k_is); (case z_repr => k_is); (case z_set => k_is); (case z_str => k_is); (case z_tuple => k_is)
    (case q_LETTERS => k_is); (case q_FIGURES => k_is); (case q_MOST_LETTERS => k_is); (case q_MOST_COLUMNS => k_is); (case q_MOST_ROWS => k_is)
#print axioms PySem.Challenge.cw_tablekin_k07_whole_texts_of_no_table_holds

