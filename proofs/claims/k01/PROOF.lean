import PyProof.Rows.All
import Wide.All
import OpenK.AllK
import Wide.FinOn
import HandS.ForMost
import HandS.IsInst
import HandS.Walk
import HandS.Flow
import HandS.Conv
import HandS.Wide
import HandS.TupAny
import HandS.RaiseMore
import HandS.Defaults
import PySem.Challenge.RW_tablekin_k01_things_or_not
set_option Elab.async false
set_option linter.all false
set_option maxRecDepth 100000
set_option maxHeartbeats 4000000
namespace Tk
open PySem PySem.Spec PyProof.Rows L2

/-! ## defs whose frames run under no running repr -/
/-- no repr is running around -/
abbrev Gd (A : Around) : Prop := A.guards = some []
theorem Gd.dp {A : Around} (g : Gd A) (v : Env) : Gd (A.deeper v) := g

/-- as FnOk, where no repr is running -/
structure FnG (P : Program) (w : World) (K : PySem.W.Frag) (mg : Str → Option Value)
    (base : Heap) (CX : CXT) (k : Nat) (f : Addr) (fd : FuncData) (ps : List Str) (sp : Sp) : Prop where
  len : ∀ vs H Q E, sp vs H Q E → vs.length = ps.length
  run : ∀ (A : Around) (outer : List Env) (s : Shared) (H : Hp) (args : Args) (us : List Value)
      (vs : List V) (Q : VK) (E : XK), Gd A → Room k A → Env0 P w K mg base A outer s H →
      BindsTo s fd args (ps.zip us) → Vals vs us → sp vs H Q E →
      codeAny (model P w) A (.call (.ref f) args) (CR CX outer P w H s Q E) s

section
variable {P : Program} {w : World} {K : PySem.W.Frag} {mg : Str → Option Value} {base : Heap}
  {CX : CXT} {j k : Nat} {f : Addr} {fd : FuncData} {ps : List Str} {sp sp' : Sp}
theorem FnG.mono (F : FnG P w K mg base CX j f fd ps sp) (h : j ≤ k) :
    FnG P w K mg base CX k f fd ps sp where
  len := F.len
  run := fun A outer s H args us vs Q E g hr =>
    F.run A outer s H args us vs Q E g (hr.mono h)
theorem FnG.imp (F : FnG P w K mg base CX k f fd ps sp)
    (h : ∀ vs H Q E, sp' vs H Q E → sp vs H Q E) : FnG P w K mg base CX k f fd ps sp' where
  len := fun vs H Q E q => F.len vs H Q E (h vs H Q E q)
  run := fun A outer s H args us vs Q E g hr e0 hb r q =>
    F.run A outer s H args us vs Q E g hr e0 hb r (h vs H Q E q)
end

section
variable {X : Cx} {CX : CXT} {k : Nat} {f C : Addr} {fd : FuncData} {ps : List Str} {sp : Sp}
  {dvs : List V} {ds : List Value} {E : XK} {x m : Str} {p pos apos : Pos} {e o : Expr}
  {es : List Expr} {ta : TE} {t : TA}
theorem goFn {pins : List (Addr × Obj)} {σ : List (Option V)} {H : Hp} {s : Shared} {Q : VK} {us : List Value}
    {vs : List V} (F : FnG X.prog X.w X.K X.mg X.base CX k f fd ps sp) (g : Gd X.A) (hr : Room k X.A)
    (hb : Binds X.K fd ps ds) (hd : Vals dvs ds) (hx : Passes CX X E) (I : Inv X pins σ H s)
    (r : Vals vs us) (q : sp (vs ++ dvs) H Q E) :
    wpAny (model X.prog X.w) X.A (call (.ref f) us) (EP X pins σ Q) X.xe s := by
  have both : Vals (vs ++ dvs) (us ++ ds) := r.append hd
  have many : (us ++ ds).length = ps.length := both.length ▸ F.len _ _ _ _ q
  have go := F.run X.A X.stack s H ⟨us, []⟩ (us ++ ds) (vs ++ dvs) Q E g hr I.env0 (hb s us I.kIn many) both q
  refine wpAny_call (codeAny_mono go ?_)
  intro res s' done
  match res, done with
  | .error e, done => exact hx pins σ H s e s' I done
  | .ok (.ret u), done => exact I.after done
  | .ok .next, done => exact done.elim
  | .ok .brk, done => exact done.elim
  | .ok .cont, done => exact done.elim

theorem pe_cl (F : FnG X.prog X.w X.K X.mg X.base CX k f fd ps sp) (g : Gd X.A) (hr : Room k X.A)
    (hg : Gl X x) (hm : X.mg x = some (.ref f)) (hk : PySem.W.keepIn X.K (.ref f) = true)
    (hb : Binds X.K fd ps ds) (hd : Vals dvs ds) (hx : Passes CX X E) (ha : PA X (e :: es) t)
    (hdb : (x == ("__debug__" : Str)) = false := by decide)
    (he : starEach (e :: es) X.env = (false, eval e X.env) :: starEach es X.env := by rfl)
    (hpl : (backTo pos (starEach es X.env)).any (·.1) = false := by rfl) :
    PE X (.Call (.Name x p) (e :: es) [] pos) (tCall sp dvs E t) :=
  ⟨fun pins s σ H Q I h => wpAny_Call_Name_kw (ld_glob I hg hm
    (PySem.W.callWith_K (h₀ := X.base) I.ok.mod.kin hk
      (thn (ha.run pos pins s σ H _ I h) fun us s1 ⟨vs, H1, I1, r, q⟩ =>
        ⟨I1.kIn, goFn F g hr hb hd hx I1 r q⟩) he hpl) hdb)⟩
theorem pe_cl0 (F : FnG X.prog X.w X.K X.mg X.base CX k f fd ps sp) (g : Gd X.A) (hr : Room k X.A)
    (hg : Gl X x) (hm : X.mg x = some (.ref f)) (hk : PySem.W.keepIn X.K (.ref f) = true)
    (hb : Binds X.K fd ps ds) (hd : Vals dvs ds) (hx : Passes CX X E)
    (hdb : (x == ("__debug__" : Str)) = false := by decide) :
    PE X (.Call (.Name x p) [] [] pos) (tCall sp dvs E tNil) :=
  ⟨fun pins s σ H Q I h => wpAny_Call_Name_kw (ld_glob I hg hm
    (PySem.W.callWith_K0 I.kIn hk (goFn (us := []) F g hr hb hd hx I .nil h)) hdb)⟩
end

/-- a def by its body -/
theorem fnG_of {CX : CXT} {P : Program} {w : World} {K : PySem.W.Frag} {mg : Str → Option Value}
    {base : Heap} {k : Nat} {f : Addr} {name qual : Str} {params : Arguments} {body : List Stmt}
    {scope : Scope} {dV kV doc pm cdv ct oc : Value} {an od : Option Addr} {osl : Array (Option Value)}
    {N ps : List Str} {sp : Sp}
    (lk : K.lookup f = some ⟨oc, od, .func (PySem.W.fnOf name qual params body scope dV kV doc pm an cdv ct), osl⟩)
    (hcd : PySem.W.codeIn K cdv qual = true) (S : FnScope N ps scope)
    (len : ∀ vs H Q E, sp vs H Q E → vs.length = ps.length)
    (hbody : ∀ (A : Around) (outer : List Env) (s : Shared) (H : Hp) (vs : List V) (Q : VK) (E : XK),
      Gd A → Room k (A.deeper (envOfC qual scope s.heap.objs.size f cdv)) → sp vs H Q E →
      ∃ t, PSs (cxOf CX P w K mg base N qual scope f cdv A outer s H E) body t ∧
        t { nx := fun _ H' => Q .non H', rt := Q } (start N vs) H) :
    FnG P w K mg base CX (k + 1) f (PySem.W.fnOf name qual params body scope dV kV doc pm an cdv ct) ps sp := by
  constructor
  · exact len
  intro A outer s H args us vs Q E g hr e0 hb r q
  have many := len _ _ _ _ q
  have KX : K.In s.heap := e0.mod.kin.keeps fun b o z => (e0.bs b o z).1
  have lim : s.heap.NoLimit := e0.mod.nolimit.keeps fun b o z => (e0.bs b o z).1
  have kinds : ∀ y ∈ ps.zip us, scope.names.lookup y.1 = some .local ∨
      (scope.names.lookup y.1 = some .cell ∧ ((cellsFrom (s.heap.objs.size + 1) scope.names []).lookup y.1).isSome = true) := by
    rintro ⟨n, v⟩ hy
    cases S.par n (List.of_mem_zip hy).1 with
    | inl z => exact .inl z
    | inr z => exact .inr ⟨z, PySem.W.cellsFrom_some _ _ _ (.inl z)⟩
  refine codeAny_call_function hr.depth (KX _ _ lk) rfl S.co S.gen rfl (PySem.W.codeRec_of KX hcd) (hb _ _ _ _ ?_)
  refine wpAny_newFunctionEnv_cells S.kind kinds ?_
  rintro env rfl s1 x
  refine ⟨lim.keeps x.toInCall.keep, codeAny_func ?_⟩
  obtain ⟨t, ht, hq⟩ := hbody A outer s H vs Q E g (hr.deeper _) q
  have I : Inv (cxOf CX P w K mg base N qual scope f cdv A outer s H E) [] (start N vs) H s1 :=
    inv_start S hr.hd e0 many r x
  refine wpAny_mono (ht.run [] s1 (start N vs) H _ I hq) ?_ (fun _ _ z => z)
  intro fl s' hs
  match fl, hs with
  | .ret u, ⟨v, σ', H', J, rv, q'⟩ => exact ⟨v, H', J.os, J.bare, J.base, J.hok, rv, q'⟩
  | .next, ⟨σ', H', J, q'⟩ => exact ⟨V.non, H', J.os, J.bare, J.base, J.hok, rfl, q'⟩
  | .brk, ⟨_, _, _, q'⟩ => exact q'.elim
  | .cont, ⟨_, _, _, q'⟩ => exact q'.elim

/-- a def of the text that lets no exception out -/
theorem okG {P : Program} {w : World} {K : PySem.W.Frag} {mg : Str → Option Value} {base : Heap}
    {x qual : Str} {st : Stmt} {f : Addr} {fd : FuncData} {N ps : List Str} {k : Nat} {sp : Sp}
    (F : Fun K x qual st f fd) (S : FnScope N ps (defScope st))
    (len : ∀ vs H Q E, sp vs H Q E → vs.length = ps.length)
    (hbody : ∀ (cdv : Value) (A : Around) (outer : List Env) (s : Shared) (H : Hp) (vs : List V)
      (Q : VK) (E : XK), Gd A → Room k (A.deeper (envOfC qual (defScope st) s.heap.objs.size f cdv)) →
      sp vs H Q E → ∃ t, PSs (cxOf CX0 P w K mg base N qual (defScope st) f cdv A outer s H E).nox (defBody st) t ∧
        t { nx := fun _ H' => Q .non H', rt := Q } (start N vs) H) :
    FnG P w K mg base CX0 (k + 1) f fd ps sp := by
  obtain ⟨oc, od, kV, doc, pm, an, cdv, ct, osl, e, lk, hcd⟩ := F.ex
  subst e
  refine fnG_of lk hcd S len ?_
  intro A outer s H vs Q E g hr q
  obtain ⟨t, h, z⟩ := hbody cdv A outer s H vs Q E g hr q
  exact ⟨t, h.nox, z⟩
end Tk

namespace Tk
open PySem PySem.Spec PyProof.Rows L2

/-! ## data -/
/-- data as Python has it, without addresses; ob: a thing that is only handed on -/
inductive D where
  | non
  | bl (b : Bool)
  | int (i : Int)
  | str (x : Str)
  | lst (xs : List D)
  | tup (xs : List D)
  | dic (kvs : List (Key × D))
  | ob (a : Addr)

mutual
/-- v stands for the data d in the abstract heap H, and leans on no address of Ex -/
inductive Dq (H : Hp) (Ex : Addr → Prop) : V → D → Prop
  | non : Dq H Ex .non .non
  | bl (b : Bool) : Dq H Ex (.bl b) (.bl b)
  | int (i : Int) : Dq H Ex (.int i) (.int i)
  | str (x : Str) : Dq H Ex (.str x) (.str x)
  | ob (a : Addr) : Dq H Ex (.ref a) (.ob a)
  | lst {a : Addr} {vs : List V} {ds : List D} : H a = some (.lst vs) → ¬ Ex a → DqL H Ex vs ds → Dq H Ex (.ref a) (.lst ds)
  | tup {a : Addr} {vs : List V} {ds : List D} : H a = some (.tup vs) → ¬ Ex a → DqL H Ex vs ds → Dq H Ex (.ref a) (.tup ds)
  | dic {a : Addr} {vs : List (Key × V)} {ds : List (Key × D)} : H a = some (.dK vs) → ¬ Ex a → DqK H Ex vs ds → Dq H Ex (.ref a) (.dic ds)
inductive DqL (H : Hp) (Ex : Addr → Prop) : List V → List D → Prop
  | nil : DqL H Ex [] []
  | cons {v : V} {vs : List V} {d : D} {ds : List D} : Dq H Ex v d → DqL H Ex vs ds → DqL H Ex (v :: vs) (d :: ds)
inductive DqK (H : Hp) (Ex : Addr → Prop) : List (Key × V) → List (Key × D) → Prop
  | nil : DqK H Ex [] []
  | cons {k : Key} {v : V} {vs : List (Key × V)} {d : D} {ds : List (Key × D)} : Dq H Ex v d → DqK H Ex vs ds → DqK H Ex ((k, v) :: vs) ((k, d) :: ds)
end

section
variable {H H' : Hp} {Ex Ex' : Addr → Prop}
mutual
/-- to another heap and another shutting-out -/
theorem Dq.to (k : ∀ a o, H a = some o → ¬ Ex a → H' a = some o ∧ ¬ Ex' a) : ∀ {v : V} {d : D}, Dq H Ex v d → Dq H' Ex' v d
  | _, _, .non => .non
  | _, _, .bl b => .bl b
  | _, _, .int i => .int i
  | _, _, .str x => .str x
  | _, _, .ob a => .ob a
  | _, _, .lst h n l => .lst (k _ _ h n).1 (k _ _ h n).2 (DqL.to k l)
  | _, _, .tup h n l => .tup (k _ _ h n).1 (k _ _ h n).2 (DqL.to k l)
  | _, _, .dic h n l => .dic (k _ _ h n).1 (k _ _ h n).2 (DqK.to k l)
theorem DqL.to (k : ∀ a o, H a = some o → ¬ Ex a → H' a = some o ∧ ¬ Ex' a) : ∀ {v : List V} {d : List D}, DqL H Ex v d → DqL H' Ex' v d
  | _, _, .nil => .nil
  | _, _, .cons h t => .cons (Dq.to k h) (DqL.to k t)
theorem DqK.to (k : ∀ a o, H a = some o → ¬ Ex a → H' a = some o ∧ ¬ Ex' a) : ∀ {v : List (Key × V)} {d : List (Key × D)}, DqK H Ex v d → DqK H' Ex' v d
  | _, _, .nil => .nil
  | _, _, .cons h t => .cons (Dq.to k h) (DqK.to k t)
end
end

section
variable {H H' : Hp} {Ex Ex' : Addr → Prop} {vs ws : List V} {ds es : List D}
theorem DqL.length : ∀ {vs : List V} {ds : List D}, DqL H Ex vs ds → vs.length = ds.length
  | _, _, .nil => rfl
  | _, _, .cons _ t => congrArg Nat.succ (DqL.length t)
theorem DqK.length : ∀ {vs : List (Key × V)} {ds : List (Key × D)}, DqK H Ex vs ds → vs.length = ds.length
  | _, _, .nil => rfl
  | _, _, .cons _ t => congrArg Nat.succ (DqK.length t)
theorem DqL.get : ∀ {vs : List V} {ds : List D} {i : Nat} {d : D}, DqL H Ex vs ds → ds[i]? = some d → ∃ v, vs[i]? = some v ∧ Dq H Ex v d
  | _, _, _, _, .nil, e => by simp at e
  | _, _, 0, _, .cons h _, e => by simp at e; subst e; exact ⟨_, rfl, h⟩
  | _, _, i + 1, d, .cons _ t, e => by
    obtain ⟨v, h1, h2⟩ := DqL.get (i := i) (d := d) t (by simpa using e)
    exact ⟨v, by simpa using h1, h2⟩
theorem DqL.getV : ∀ {vs : List V} {ds : List D} {i : Nat} {v : V}, DqL H Ex vs ds → vs[i]? = some v → ∃ d, ds[i]? = some d ∧ Dq H Ex v d
  | _, _, _, _, .nil, e => by simp at e
  | _, _, 0, _, .cons h _, e => by simp at e; subst e; exact ⟨_, rfl, h⟩
  | _, _, i + 1, d, .cons _ t, e => by
    obtain ⟨v, h1, h2⟩ := DqL.getV (i := i) (v := d) t (by simpa using e)
    exact ⟨v, by simpa using h1, h2⟩
theorem DqL.append : ∀ {vs ws : List V} {ds es : List D}, DqL H Ex vs ds → DqL H Ex ws es → DqL H Ex (vs ++ ws) (ds ++ es)
  | _, _, _, _, .nil, s => s
  | _, _, _, _, .cons r t, s => .cons r (DqL.append t s)
theorem DqL.take : ∀ {vs : List V} {ds : List D} (n : Nat), DqL H Ex vs ds → DqL H Ex (vs.take n) (ds.take n)
  | _, _, 0, _ => .nil
  | _, _, _ + 1, .nil => .nil
  | _, _, n + 1, .cons r t => .cons r (DqL.take n t)
theorem DqL.drop : ∀ {vs : List V} {ds : List D} (n : Nat), DqL H Ex vs ds → DqL H Ex (vs.drop n) (ds.drop n)
  | _, _, 0, r => r
  | _, _, _ + 1, .nil => .nil
  | _, _, n + 1, .cons _ t => DqL.drop n t
theorem DqL.set {v : V} {d : D} (r : Dq H Ex v d) : ∀ {vs : List V} {ds : List D} (i : Nat), DqL H Ex vs ds → DqL H Ex (vs.set i v) (ds.set i d)
  | _, _, _, .nil => .nil
  | _, _, 0, .cons _ t => .cons r t
  | _, _, i + 1, .cons q t => .cons q (DqL.set r i t)
theorem DqL.ints : ∀ {ns : List Int}, DqL H Ex (ns.map V.int) (ns.map D.int)
  | [] => .nil
  | n :: _ => .cons (.int n) DqL.ints
theorem DqL.isNil (h : DqL H Ex vs ds) : vs = [] ↔ ds = [] := by
  cases h with
  | nil => simp
  | cons _ _ => simp
theorem DqL.isEmpty (h : DqL H Ex vs ds) : vs.isEmpty = ds.isEmpty := by
  cases h <;> rfl
theorem DqL.cut (h : DqL H Ex vs ds) (a b : Nat) : DqL H Ex ((vs.drop a).take b) ((ds.drop a).take b) := (h.drop a).take b
end

/-! ## the world that deeds may change -/
structure Wo where
  Om : Type
  Mu : Addr → Prop
  /-- the world stands so, and leans on nothing of N -/
  ok : Om → (Addr → Prop) → Hp → Prop
  grow : ∀ {ω : Om} {N : Addr → Prop} {H H' : Hp}, ok ω N H → (∀ b o, H b = some o → ¬ N b → H' b = some o) → ok ω N H'
  less : ∀ {ω : Om} {N N' : Addr → Prop} {H : Hp}, ok ω N H → (∀ b, N' b → N b ∨ H b = none) → ok ω N' H
  trk : ∀ {ω : Om} {N : Addr → Prop} {H : Hp} {a : Addr}, ok ω N H → Mu a → H a ≠ none
/-- the world, where Ex is shut out -/
def Wo.at (W : Wo) (Ex : Addr → Prop) (ω : W.Om) (H : Hp) : Prop := W.ok ω (fun b => Ex b ∧ ¬ W.Mu b) H
theorem Wo.gr {W : Wo} {Ex : Addr → Prop} {ω : W.Om} {H H' : Hp} (h : W.at Ex ω H) (s : Same H H') : W.at Ex ω H' := W.grow h fun b o e _ => s b o e
theorem Wo.le {W : Wo} {Ex Ex' : Addr → Prop} {ω : W.Om} {H : Hp} (h : W.at Ex ω H) (s : ∀ b, Ex' b → Ex b ∨ H b = none) : W.at Ex' ω H :=
  W.less h fun b m => (s b m.1).elim (fun z => .inl ⟨z, m.2⟩) .inr
theorem Wo.tk {W : Wo} {Ex : Addr → Prop} {ω : W.Om} {H : Hp} {a : Addr} (h : W.at Ex ω H) (m : W.Mu a) : H a ≠ none := W.trk h m
/-- all but what may change is kept -/
def Kp (W : Wo) (H H' : Hp) : Prop := ∀ b o, H b = some o → ¬ W.Mu b → H' b = some o
theorem Kp.refl {W : Wo} {H : Hp} : Kp W H H := fun _ _ h _ => h
theorem Kp.trans {W : Wo} {H H1 H2 : Hp} (a : Kp W H H1) (b : Kp W H1 H2) : Kp W H H2 := fun c o h n => b c o (a c o h n) n
theorem Kp.same {W : Wo} {H H' : Hp} (s : Same H H') : Kp W H H' := fun b o h _ => s b o h
theorem same_upd {H : Hp} {p : Addr} {o : HO} (n : H p = none) : Same H (upd H p o) := fun b u e => by
  rw [upd_ne (ne_of_none e n)]
  exact e
/-- the empty world -/
def W0 : Wo := ⟨Unit, fun _ => False, fun _ _ _ => True, fun _ _ => trivial, fun _ _ => trivial, fun _ h => h.elim⟩

/-! ## slots -/
/-- what is known of a slot: data; a list, a dict of the def's own -/
inductive Sl where
  | d (d : D)
  | own (ds : List D)
  | odc (ds : List (Key × D))
abbrev Rho := List (Option Sl)
/-- the def's own object at a stands as the slot tells -/
def Own (H : Hp) (Ex : Addr → Prop) (a : Addr) : Sl → Prop
  | .own ds => Ex a ∧ ∃ vs, H a = some (.lst vs) ∧ DqL H Ex vs ds
  | .odc ds => Ex a ∧ ∃ vs, H a = some (.dK vs) ∧ DqK H Ex vs ds
  | .d _ => False
def SlR (H : Hp) (Ex : Addr → Prop) : Option V → Sl → Prop
  | some v, .d d => Dq H Ex v d
  | some v, .own ds => ∃ a, v = .ref a ∧ Own H Ex a (.own ds)
  | some v, .odc ds => ∃ a, v = .ref a ∧ Own H Ex a (.odc ds)
  | none, _ => False
def isOwn : Sl → Bool
  | .d _ => false
  | _ => true

/-- a def's entry -/
structure Bs where
  H0 : Hp
  Ex0 : Addr → Prop
/-- the state of a def's run, as data -/
structure Rep (W : Wo) (B : Bs) (Ex : Addr → Prop) (H : Hp) (σ : List (Option V)) (ρ : Rho) (ω : W.Om) : Prop where
  wo : W.at Ex ω H
  mu : ∀ a, W.Mu a → B.Ex0 a
  sub : ∀ a, B.Ex0 a → Ex a
  out : ∀ a, Ex a → B.Ex0 a ∨ B.H0 a = none
  tr0 : ∀ a, B.Ex0 a → B.H0 a ≠ none
  tr : ∀ a, Ex a → H a ≠ none
  kp : Kp W B.H0 H
  len : σ.length = ρ.length
  sl : ∀ (i : Nat) (z : Sl), ρ[i]? = some (some z) → ∃ o : Option V, σ[i]? = some o ∧ SlR H Ex o z
  dis : ∀ (i j : Nat) (z y : Sl) (a : Addr), ρ[i]? = some (some z) → ρ[j]? = some (some y) → isOwn z = true → isOwn y = true →
    σ[i]? = some (some (.ref a)) → σ[j]? = some (some (.ref a)) → i = j
  ofr : ∀ (i : Nat) (z : Sl) (a : Addr), ρ[i]? = some (some z) → isOwn z = true → σ[i]? = some (some (.ref a)) → B.H0 a = none

theorem Own.to {H H' : Hp} {Ex Ex' : Addr → Prop} {a : Addr} {z : Sl} (hx : ∀ b, Ex b → Ex' b) (ha : ∀ o, H a = some o → H' a = some o)
    (k : ∀ a o, H a = some o → ¬ Ex a → H' a = some o ∧ ¬ Ex' a) (h : Own H Ex a z) : Own H' Ex' a z := by
  cases z with
  | d _ => exact h
  | own ds =>
    obtain ⟨e, vs, h1, h2⟩ := h
    exact ⟨hx a e, vs, ha _ h1, h2.to k⟩
  | odc ds =>
    obtain ⟨e, vs, h1, h2⟩ := h
    exact ⟨hx a e, vs, ha _ h1, h2.to k⟩
theorem SlR.to {H H' : Hp} {Ex Ex' : Addr → Prop} {o : Option V} {z : Sl} (hx : ∀ b, Ex b → Ex' b) (ha : ∀ a u, o = some (.ref a) → H a = some u → isOwn z = true → H' a = some u)
    (k : ∀ a o, H a = some o → ¬ Ex a → H' a = some o ∧ ¬ Ex' a) (h : SlR H Ex o z) : SlR H' Ex' o z := by
  cases o with
  | none => exact h
  | some v =>
    cases z with
    | d d => exact Dq.to k h
    | own ds =>
      obtain ⟨a, e, h⟩ := h
      exact ⟨a, e, h.to hx (fun u q => ha a u (congrArg some e) q rfl) k⟩
    | odc ds =>
      obtain ⟨a, e, h⟩ := h
      exact ⟨a, e, h.to hx (fun u q => ha a u (congrArg some e) q rfl) k⟩

section
variable {W : Wo} {B : Bs} {Ex : Addr → Prop} {H H' : Hp} {σ : List (Option V)} {ρ : Rho} {ω ω' : W.Om}
theorem Rep.notMu (R : Rep W B Ex H σ ρ ω) {a : Addr} (h : B.H0 a = none) : ¬ W.Mu a := fun m => R.tr0 a (R.mu a m) h
theorem Rep.muEx (R : Rep W B Ex H σ ρ ω) {a : Addr} (h : W.Mu a) : Ex a := R.sub a (R.mu a h)
/-- the heap grows, the world may turn: all slots stay -/
theorem Rep.go (R : Rep W B Ex H σ ρ ω) (k : Kp W H H') (w : W.at Ex ω' H') : Rep W B Ex H' σ ρ ω' where
  wo := w
  mu := R.mu
  sub := R.sub
  out := R.out
  tr0 := R.tr0
  tr := fun a h => by
    by_cases m : W.Mu a
    · exact W.tk w m
    · cases q : H a with
      | none => exact absurd q (R.tr a h)
      | some o => rw [k a o q m]; exact fun z => nomatch z
  kp := R.kp.trans k
  len := R.len
  sl := fun i z e => by
    obtain ⟨o, h1, h2⟩ := R.sl i z e
    refine ⟨o, h1, h2.to (fun _ h => h) (fun a u e1 e2 e3 => k a u e2 ?_) fun a o h n => ⟨k a o h fun m => n (R.muEx m), n⟩⟩
    subst e1
    exact R.notMu (R.ofr i z a e e3 h1)
  dis := R.dis
  ofr := R.ofr
theorem Rep.grow (R : Rep W B Ex H σ ρ ω) (s : Same H H') : Rep W B Ex H' σ ρ ω := R.go (Kp.same s) (W.gr R.wo s)
theorem Rep.new (R : Rep W B Ex H σ ρ ω) {p : Addr} (h : H p = none) : ¬ Ex p := fun m => R.tr p m h
theorem Rep.keep (R : Rep W B Ex H σ ρ ω) (k : Kp W H H') {v : V} {d : D} (h : Dq H Ex v d) : Dq H' Ex v d :=
  h.to fun a o e n => ⟨k a o e fun m => n (R.muEx m), n⟩
theorem Rep.keepL (R : Rep W B Ex H σ ρ ω) (k : Kp W H H') {v : List V} {d : List D} (h : DqL H Ex v d) : DqL H' Ex v d :=
  h.to fun a o e n => ⟨k a o e fun m => n (R.muEx m), n⟩
theorem Rep.slot (R : Rep W B Ex H σ ρ ω) {i : Nat} {d : D} (e : ρ[i]? = some (some (.d d))) : ∃ v, σ[i]? = some (some v) ∧ Dq H Ex v d := by
  obtain ⟨o, h1, h2⟩ := R.sl i _ e
  cases o with
  | none => exact h2.elim
  | some v => exact ⟨v, h1, h2⟩
end
theorem Dq.same {H H' : Hp} {Ex : Addr → Prop} (s : Same H H') {v : V} {d : D} (h : Dq H Ex v d) : Dq H' Ex v d := h.to fun a o e n => ⟨s a o e, n⟩
theorem DqL.same {H H' : Hp} {Ex : Addr → Prop} (s : Same H H') {v : List V} {d : List D} (h : DqL H Ex v d) : DqL H' Ex v d := h.to fun a o e n => ⟨s a o e, n⟩
theorem DqK.same {H H' : Hp} {Ex : Addr → Prop} (s : Same H H') {v : List (Key × V)} {d : List (Key × D)} (h : DqK H Ex v d) : DqK H' Ex v d := h.to fun a o e n => ⟨s a o e, n⟩
/-- a value that may be read as data: its own object may be the def's own -/
inductive Bq (W : Wo) (H : Hp) (Ex : Addr → Prop) : V → D → Prop
  | of {v : V} {d : D} : Dq H Ex v d → Bq W H Ex v d
  | lst {a : Addr} {vs : List V} {ds : List D} : H a = some (.lst vs) → ¬ W.Mu a → DqL H Ex vs ds → Bq W H Ex (.ref a) (.lst ds)
  | dic {a : Addr} {vs : List (Key × V)} {ds : List (Key × D)} : H a = some (.dK vs) → ¬ W.Mu a → DqK H Ex vs ds → Bq W H Ex (.ref a) (.dic ds)
section
variable {W : Wo} {H : Hp} {Ex : Addr → Prop} {v : V}
theorem Bq.ofL {ds : List D} (h : Bq W H Ex v (.lst ds)) : ∃ a vs, v = .ref a ∧ H a = some (.lst vs) ∧ DqL H Ex vs ds := by
  cases h with
  | of q => cases q with | lst h1 h2 h3 => exact ⟨_, _, rfl, h1, h3⟩
  | lst h1 _ h2 => exact ⟨_, _, rfl, h1, h2⟩
theorem Bq.ofT {ds : List D} (h : Bq W H Ex v (.tup ds)) : ∃ a vs, v = .ref a ∧ H a = some (.tup vs) ∧ ¬ Ex a ∧ DqL H Ex vs ds := by
  cases h with
  | of q => cases q with | tup h1 h2 h3 => exact ⟨_, _, rfl, h1, h2, h3⟩
theorem Bq.ofK {ds : List (Key × D)} (h : Bq W H Ex v (.dic ds)) : ∃ a vs, v = .ref a ∧ H a = some (.dK vs) ∧ DqK H Ex vs ds := by
  cases h with
  | of q => cases q with | dic h1 h2 h3 => exact ⟨_, _, rfl, h1, h3⟩
  | dic h1 _ h2 => exact ⟨_, _, rfl, h1, h2⟩
theorem Bq.ofI {i : Int} (h : Bq W H Ex v (.int i)) : v = .int i := by
  cases h with | of q => cases q; rfl
theorem Bq.ofS {i : Str} (h : Bq W H Ex v (.str i)) : v = .str i := by
  cases h with | of q => cases q; rfl
theorem Bq.ofB {i : Bool} (h : Bq W H Ex v (.bl i)) : v = .bl i := by
  cases h with | of q => cases q; rfl
theorem Bq.ofN (h : Bq W H Ex v .non) : v = .non := by
  cases h with | of q => cases q; rfl
theorem Bq.ofO {a : Addr} (h : Bq W H Ex v (.ob a)) : v = .ref a := by
  cases h with | of q => cases q; rfl
end

/-! ## judgements over data -/
abbrev RQ := Wo → Hp → (Addr → Prop) → V → D → Prop
/-- clean data -/
abbrev Cl : RQ := fun _ => Dq
/-- a relation that the world's turns leave -/
class Stab (R : RQ) : Prop where
  keep : ∀ {W : Wo} {H H' : Hp} {Ex : Addr → Prop} {v : V} {d : D}, (∀ a, W.Mu a → Ex a) → Kp W H H' → R W H Ex v d → R W H' Ex v d
  bq : ∀ {W : Wo} {H : Hp} {Ex : Addr → Prop} {v : V} {d : D}, R W H Ex v d → Bq W H Ex v d
instance : Stab Cl where
  keep := fun m k h => h.to fun a o e n => ⟨k a o e fun z => n (m a z), n⟩
  bq := .of
instance : Stab Bq where
  keep := fun m k h => by
    cases h with
    | of q => exact .of (q.to fun a o e n => ⟨k a o e fun z => n (m a z), n⟩)
    | lst h1 h2 h3 => exact .lst (k _ _ h1 h2) h2 (h3.to fun a o e n => ⟨k a o e fun z => n (m a z), n⟩)
    | dic h1 h2 h3 => exact .dic (k _ _ h1 h2) h2 (h3.to fun a o e n => ⟨k a o e fun z => n (m a z), n⟩)
  bq := fun h => h

/-- readings over data -/
abbrev DT (W : Wo) := Rho → W.Om → (D → W.Om → Prop) → Prop
abbrev DB (W : Wo) := Rho → W.Om → (Bool → W.Om → Prop) → Prop
abbrev DA (W : Wo) := Rho → W.Om → (List D → W.Om → Prop) → Prop
/-- behind an expression -/
def Post (R : RQ) (W : Wo) (Ex : Addr → Prop) (H : Hp) (Q : D → W.Om → Prop) : VK := fun v H' =>
  ∃ d ω', Kp W H H' ∧ W.at Ex ω' H' ∧ R W H' Ex v d ∧ Q d ω'
def PostB (W : Wo) (Ex : Addr → Prop) (H : Hp) (Q : Bool → W.Om → Prop) : Bool → Hp → Prop := fun b H' =>
  ∃ ω', Kp W H H' ∧ W.at Ex ω' H' ∧ Q b ω'
def PostL (W : Wo) (Ex : Addr → Prop) (H : Hp) (Q : List D → W.Om → Prop) : List V → Hp → Prop := fun vs H' =>
  ∃ ds ω', Kp W H H' ∧ W.at Ex ω' H' ∧ DqL H' Ex vs ds ∧ Q ds ω'
structure DX (R : RQ) (X : Cx) (W : Wo) (e : Expr) (t : DT W) : Prop where
  run : ∀ (pins : List (Addr × Obj)) (s : Shared) (σ : List (Option V)) (H : Hp) (B : Bs) (Ex : Addr → Prop) (ρ : Rho) (ω : W.Om) (Q : D → W.Om → Prop),
    Inv X pins σ H s → Rep W B Ex H σ ρ ω → t ρ ω Q → wpAny (model X.prog X.w) X.A (eval e X.env) (EP X pins σ (Post R W Ex H Q)) X.xe s
structure DP (X : Cx) (W : Wo) (e : Expr) (t : DB W) : Prop where
  run : ∀ (pins : List (Addr × Obj)) (s : Shared) (σ : List (Option V)) (H : Hp) (B : Bs) (Ex : Addr → Prop) (ρ : Rho) (ω : W.Om) (Q : Bool → W.Om → Prop),
    Inv X pins σ H s → Rep W B Ex H σ ρ ω → t ρ ω Q → wpAny (model X.prog X.w) X.A (isTrue e X.env (eval e X.env)) (TP X pins σ (PostB W Ex H Q)) X.xe s
structure DL (X : Cx) (W : Wo) (es : List Expr) (t : DA W) : Prop where
  run : ∀ (pos : Pos) (pins : List (Addr × Obj)) (s : Shared) (σ : List (Option V)) (H : Hp) (B : Bs) (Ex : Addr → Prop) (ρ : Rho) (ω : W.Om) (Q : List D → W.Om → Prop),
    Inv X pins σ H s → Rep W B Ex H σ ρ ω → t ρ ω Q → wpAny (model X.prog X.w) X.A (spliced (backTo pos (starEach es X.env))) (AP X pins σ (PostL W Ex H Q)) X.xe s
abbrev DE := DX Cl
/-- as readings of the heap -/
def tD (R : RQ) (W : Wo) (t : DT W) : TE := fun σ H Q => ∃ B Ex ρ ω Q0, Rep W B Ex H σ ρ ω ∧ t ρ ω Q0 ∧
  ∀ d ω' v H', Q0 d ω' → Kp W H H' → W.at Ex ω' H' → R W H' Ex v d → Q v H'
def tDB (W : Wo) (t : DB W) : TT := fun σ H Q => ∃ B Ex ρ ω Q0, Rep W B Ex H σ ρ ω ∧ t ρ ω Q0 ∧
  ∀ b ω' H', Q0 b ω' → Kp W H H' → W.at Ex ω' H' → Q b H'
def tDL (W : Wo) (t : DA W) : TA := fun σ H Q => ∃ B Ex ρ ω Q0, Rep W B Ex H σ ρ ω ∧ t ρ ω Q0 ∧
  ∀ ds ω' vs H', Q0 ds ω' → Kp W H H' → W.at Ex ω' H' → DqL H' Ex vs ds → Q vs H'
section
variable {R : RQ} {X : Cx} {W : Wo} {e : Expr} {es : List Expr} {t : DT W} {tb : DB W} {ta : DA W}
theorem DX.pe (h : DX R X W e t) : PE X e (tD R W t) := by
  refine ⟨fun pins s σ H Q I ⟨B, Ex, ρ, ω, Q0, rep, q, fin⟩ => ?_⟩
  exact thn (h.run pins s σ H B Ex ρ ω Q0 I rep q) fun u s' ⟨v, H', I', r, d, ω', k, w, z, q'⟩ => ⟨v, H', I', r, fin d ω' v H' q' k w z⟩
theorem DP.pt (h : DP X W e tb) : PT X e (tDB W tb) := by
  refine ⟨fun pins s σ H Q I ⟨B, Ex, ρ, ω, Q0, rep, q, fin⟩ => ?_⟩
  exact thn (h.run pins s σ H B Ex ρ ω Q0 I rep q) fun b s' ⟨H', I', ω', k, w, q'⟩ => ⟨H', I', fin b ω' H' q' k w⟩
theorem DL.pa (h : DL X W es ta) : PA X es (tDL W ta) := by
  refine ⟨fun pos pins s σ H Q I ⟨B, Ex, ρ, ω, Q0, rep, q, fin⟩ => ?_⟩
  exact thn (h.run pos pins s σ H B Ex ρ ω Q0 I rep q) fun us s' ⟨vs, H', I', r, ds, ω', k, w, z, q'⟩ => ⟨vs, H', I', r, fin ds ω' vs H' q' k w z⟩
theorem DX.of {te : TE} (h : PE X e te) (f : ∀ (B : Bs) (Ex : Addr → Prop) (ρ : Rho) (ω : W.Om) (σ : List (Option V)) (H : Hp) (Q : D → W.Om → Prop), Rep W B Ex H σ ρ ω → t ρ ω Q → te σ H (Post R W Ex H Q)) : DX R X W e t :=
  ⟨fun pins s σ H B Ex ρ ω Q I rep q => h.run pins s σ H _ I (f B Ex ρ ω σ H Q rep q)⟩
theorem DP.of {te : TT} (h : PT X e te) (f : ∀ (B : Bs) (Ex : Addr → Prop) (ρ : Rho) (ω : W.Om) (σ : List (Option V)) (H : Hp) (Q : Bool → W.Om → Prop), Rep W B Ex H σ ρ ω → tb ρ ω Q → te σ H (PostB W Ex H Q)) : DP X W e tb :=
  ⟨fun pins s σ H B Ex ρ ω Q I rep q => h.run pins s σ H _ I (f B Ex ρ ω σ H Q rep q)⟩
theorem DL.of {te : TA} (h : PA X es te) (f : ∀ (B : Bs) (Ex : Addr → Prop) (ρ : Rho) (ω : W.Om) (σ : List (Option V)) (H : Hp) (Q : List D → W.Om → Prop), Rep W B Ex H σ ρ ω → ta ρ ω Q → te σ H (PostL W Ex H Q)) : DL X W es ta :=
  ⟨fun pos pins s σ H B Ex ρ ω Q I rep q => h.run pos pins s σ H _ I (f B Ex ρ ω σ H Q rep q)⟩
/-- clean data may be read -/
theorem DX.bq [Stab R] (h : DX R X W e t) : DX Bq X W e t := DX.of h.pe fun B Ex ρ ω σ H Q rep q =>
  ⟨B, Ex, ρ, ω, Q, rep, q, fun d ω' v H' q' k w z => ⟨d, ω', k, w, Stab.bq z, q'⟩⟩
end

/-! ## names and constants -/
section
variable {R : RQ} {X : Cx} {W : Wo} {pos : Pos}
def dV {W : Wo} (i : Nat) : DT W := fun ρ ω Q => ∃ d, ρ[i]? = some (some (.d d)) ∧ Q d ω
/-- the def's own list or dict, read -/
def dO {W : Wo} (i : Nat) : DT W := fun ρ ω Q => (∃ ds, ρ[i]? = some (some (.own ds)) ∧ Q (.lst ds) ω) ∨ ∃ ds, ρ[i]? = some (some (.odc ds)) ∧ Q (.dic ds) ω
def dC {W : Wo} (d : D) : DT W := fun _ ω Q => Q d ω
theorem de_v (i : Nat) {x : Str} (hN : X.N[i]? = some x := by rfl) (hv : Vis X.env.scope x := by first | exact Or.inl rfl | exact Or.inr (Or.inl rfl) | exact Or.inr (Or.inr rfl))
    (hd : (x == ("__debug__" : Str)) = false := by decide) (hcd : (x == ("__classdict__" : Str)) = false := by decide) : DE X W (.Name x pos) (dV i) :=
  DX.of (pe_var (i := i) hN hv hd hcd) fun B Ex ρ ω σ H Q rep ⟨d, e, q⟩ => by
    obtain ⟨v, h1, h2⟩ := rep.slot e
    exact ⟨v, h1, d, ω, Kp.refl, rep.wo, h2, q⟩
theorem db_o (i : Nat) {x : Str} (hN : X.N[i]? = some x := by rfl) (hv : Vis X.env.scope x := by first | exact Or.inl rfl | exact Or.inr (Or.inl rfl) | exact Or.inr (Or.inr rfl))
    (hd : (x == ("__debug__" : Str)) = false := by decide) (hcd : (x == ("__classdict__" : Str)) = false := by decide) : DX Bq X W (.Name x pos) (dO i) :=
  DX.of (pe_var (i := i) hN hv hd hcd) fun B Ex ρ ω σ H Q rep h => by
    rcases h with ⟨ds, e, q⟩ | ⟨ds, e, q⟩
    · obtain ⟨o, h1, h2⟩ := rep.sl i _ e
      cases o with
      | none => exact h2.elim
      | some v =>
        obtain ⟨a, rfl, ex, vs, h3, h4⟩ := h2
        exact ⟨_, h1, _, ω, Kp.refl, rep.wo, .lst h3 (rep.notMu (rep.ofr i _ a e rfl h1)) h4, q⟩
    · obtain ⟨o, h1, h2⟩ := rep.sl i _ e
      cases o with
      | none => exact h2.elim
      | some v =>
        obtain ⟨a, rfl, ex, vs, h3, h4⟩ := h2
        exact ⟨_, h1, _, ω, Kp.refl, rep.wo, .dic h3 (rep.notMu (rep.ofr i _ a e rfl h1)) h4, q⟩
theorem de_int {i j} : DE X W (.Constant (.int i) j pos) (dC (.int i)) := DX.of pe_int fun B Ex ρ ω σ H Q rep q => ⟨_, ω, Kp.refl, rep.wo, .int i, q⟩
theorem de_bl {b j} : DE X W (.Constant (.bool b) j pos) (dC (.bl b)) := DX.of pe_bl fun B Ex ρ ω σ H Q rep q => ⟨_, ω, Kp.refl, rep.wo, .bl b, q⟩
theorem de_non {j} : DE X W (.Constant .none j pos) (dC .non) := DX.of pe_non fun B Ex ρ ω σ H Q rep q => ⟨_, ω, Kp.refl, rep.wo, .non, q⟩
theorem de_str {x j} : DE X W (.Constant (.str x) j pos) (dC (.str x)) := DX.of pe_str fun B Ex ρ ω σ H Q rep q => ⟨_, ω, Kp.refl, rep.wo, .str x, q⟩
/-- a module's constant that is an int, a text -/
theorem de_gI {x : Str} {i : Int} (hg : Gl X x) (hm : ∃ k, X.mg x = some (.int i k)) (hd : (x == ("__debug__" : Str)) = false := by decide) : DE X W (.Name x pos) (dC (.int i)) :=
  DX.of (pe_glob (v := .int i) hg hm.choose_spec ⟨_, rfl⟩ hd) fun B Ex ρ ω σ H Q rep q => ⟨_, ω, Kp.refl, rep.wo, .int i, q⟩
theorem de_gS {x : Str} {i : Str} (hg : Gl X x) (hm : ∃ k, X.mg x = some (.str i k)) (hd : (x == ("__debug__" : Str)) = false := by decide) : DE X W (.Name x pos) (dC (.str i)) :=
  DX.of (pe_glob (v := .str i) hg hm.choose_spec ⟨_, rfl⟩ hd) fun B Ex ρ ω σ H Q rep q => ⟨_, ω, Kp.refl, rep.wo, .str i, q⟩
end

/-! ## two operands -/
section
variable {R S : RQ} {X : Cx} {W : Wo} {a b c e : Expr} {es : List Expr} {pos : Pos} {ta tb tc : DT W} {tl : DA W}
theorem two [Stab R] [Stab S] {B : Bs} {Ex : Addr → Prop} {ρ : Rho} {ω : W.Om} {σ : List (Option V)} {H : Hp} {G : D → D → W.Om → Prop} {C : V → V → Hp → Prop} (rep : Rep W B Ex H σ ρ ω)
    (q : ta ρ ω fun x ω1 => tb ρ ω1 fun y ω2 => G x y ω2)
    (f : ∀ x y dx dy H2 ω2, Kp W H H2 → Rep W B Ex H2 σ ρ ω2 → R W H2 Ex x dx → S W H2 Ex y dy → G dx dy ω2 → C x y H2) :
    tD R W ta σ H fun x H1 => tD S W tb σ H1 fun y H2 => C x y H2 :=
  ⟨B, Ex, ρ, ω, _, rep, q, fun dx ω1 x H1 q1 k1 w1 z1 => ⟨B, Ex, ρ, ω1, _, rep.go k1 w1, q1, fun dy ω2 y H2 q2 k2 w2 z2 =>
    f x y dx dy H2 ω2 (k1.trans k2) ((rep.go k1 w1).go k2 w2) (Stab.keep (fun _ m => rep.muEx m) k2 z1) z2 q2⟩⟩
/-- an operation of two values as data -/
def Op2 (X : Cx) (W : Wo) (f : Value → Value → Sem Value) (g : D → D → Option D) : Prop :=
  ∃ r : R2, OpR X f r ∧ ∀ {H : Hp} {Ex : Addr → Prop} {x y : V} {dx dy z : D} {Q : VK}, (∀ a, Ex a → H a ≠ none) → Bq W H Ex x dx → Bq W H Ex y dy → g dx dy = some z →
    (∀ v H', Same H H' → Dq H' Ex v z → Q v H') → r x y H Q
def dOp {W : Wo} (g : D → D → Option D) (ta tb : DT W) : DT W := fun ρ ω Q => ta ρ ω fun x ω1 => tb ρ ω1 fun y ω2 => ∃ z, g x y = some z ∧ Q z ω2
theorem de_op [Stab R] [Stab S] {op : Operator} {g : D → D → Option D} (ho : Op2 X W (binaryOp op) g) (ha : DX R X W a ta) (hb : DX S X W b tb) : DE X W (.BinOp a op b pos) (dOp g ta tb) := by
  obtain ⟨r, h1, h2⟩ := ho
  refine DX.of (pe_op h1 ha.pe hb.pe) fun B Ex ρ ω σ H Q rep q => two rep q fun x y dx dy H2 ω2 k rp zx zy ⟨z, e, q2⟩ => ?_
  exact h2 rp.tr (Stab.bq zx) (Stab.bq zy) e fun v H' sm dz => ⟨z, ω2, k.trans (Kp.same sm), W.gr rp.wo sm, dz, q2⟩
theorem de_cmp [Stab R] [Stab S] {op : CmpOp} {g : D → D → Option D} (ho : Op2 X W (compareOp op) g) (ha : DX R X W a ta) (hb : DX S X W b tb) (hm : behindInMarks op b = false) : DE X W (.Compare a [op] [b] pos) (dOp g ta tb) := by
  obtain ⟨r, h1, h2⟩ := ho
  refine DX.of (pe_cmpR h1 ha.pe hb.pe hm) fun B Ex ρ ω σ H Q rep q => two rep q fun x y dx dy H2 ω2 k rp zx zy ⟨z, e, q2⟩ => ?_
  exact h2 rp.tr (Stab.bq zx) (Stab.bq zy) e fun v H' sm dz => ⟨z, ω2, k.trans (Kp.same sm), W.gr rp.wo sm, dz, q2⟩
/-- a comparison as a test -/
def dTst {W : Wo} (t : DT W) : DB W := fun ρ ω Q => t ρ ω fun d ω' => ∃ b, d = .bl b ∧ Q b ω'
theorem dp_cmp [Stab R] [Stab S] {op : CmpOp} {g : D → D → Option D} (ho : Op2 X W (compareOp op) g) (ha : DX R X W a ta) (hb : DX S X W b tb) (hm : behindInMarks op b = false) : DP X W (.Compare a [op] [b] pos) (dTst (dOp g ta tb)) := by
  obtain ⟨r, h1, h2⟩ := ho
  refine DP.of (pt_cmpR h1 ha.pe hb.pe hm) fun B Ex ρ ω σ H Q rep q => two rep q fun x y dx dy H2 ω2 k rp zx zy ⟨z, e, c, e2, q2⟩ => ?_
  subst e2
  refine h2 rp.tr (Stab.bq zx) (Stab.bq zy) e fun v H' sm dz => ?_
  cases dz
  exact ⟨c, rfl, ω2, k.trans (Kp.same sm), W.gr rp.wo sm, q2⟩
/-- an expression that gives a bool, as a test -/
theorem dp_val (h : DE X W e ta) (he : ∀ whole, isTrue e X.env whole = (do let v ← whole; standAt e.pos; holding [v] (truthy v)) := by intro _; rfl) : DP X W e (dTst ta) :=
  DP.of (pt_val h.pe he) fun B Ex ρ ω σ H Q rep q => ⟨B, Ex, ρ, ω, _, rep, q, fun d ω' v H' ⟨b, e1, q'⟩ k w z => by
    subst e1
    cases z
    exact ⟨b, rfl, ω', k, w, q'⟩⟩
end
/-! ## and, or, not, if-else -/
section
variable {X : Cx} {W : Wo} {a b c e : Expr} {rest : List Expr} {pos : Pos} {ta tb tc : DT W} {tA tB : DB W}
def dAnd {W : Wo} (t u : DB W) : DB W := fun ρ ω Q => t ρ ω fun c ω1 => if c = true then u ρ ω1 Q else Q false ω1
def dOr {W : Wo} (t u : DB W) : DB W := fun ρ ω Q => t ρ ω fun c ω1 => if c = true then Q true ω1 else u ρ ω1 Q
def dNot {W : Wo} (t : DB W) : DB W := fun ρ ω Q => t ρ ω fun c ω1 => Q (!c) ω1
/-- a test whatever its whole is -/
structure DW (X : Cx) (W : Wo) (e : Expr) (t : DB W) : Prop where
  run : ∀ (whole : Sem Value) (pins : List (Addr × Obj)) (s : Shared) (σ : List (Option V)) (H : Hp) (B : Bs) (Ex : Addr → Prop) (ρ : Rho) (ω : W.Om) (Q : Bool → W.Om → Prop),
    Inv X pins σ H s → Rep W B Ex H σ ρ ω → t ρ ω Q → wpAny (model X.prog X.w) X.A (isTrue e X.env whole) (TP X pins σ (PostB W Ex H Q)) X.xe s
theorem DW.dp (h : DW X W e tA) : DP X W e tA := ⟨h.run _⟩
theorem DW.pw (h : DW X W e tA) : PW X e (tDB W tA) := by
  refine ⟨fun wh pins s σ H Q I ⟨B, Ex, ρ, ω, Q0, rep, q, fin⟩ => ?_⟩
  exact thn (h.run wh pins s σ H B Ex ρ ω Q0 I rep q) fun b s' ⟨H', I', ω', k, w, q'⟩ => ⟨H', I', fin b ω' H' q' k w⟩
theorem DW.of {te : TT} (h : PW X e te) (f : ∀ (B : Bs) (Ex : Addr → Prop) (ρ : Rho) (ω : W.Om) (σ : List (Option V)) (H : Hp) (Q : Bool → W.Om → Prop), Rep W B Ex H σ ρ ω → tA ρ ω Q → te σ H (PostB W Ex H Q)) : DW X W e tA :=
  ⟨fun wh pins s σ H B Ex ρ ω Q I rep q => h.run wh pins s σ H _ I (f B Ex ρ ω σ H Q rep q)⟩
theorem dw_and1 (h : DP X W a tA) : DW X W (.BoolOp .And [a] pos) tA := DW.of (pw_and1 h.pt) fun B Ex ρ ω σ H Q rep q =>
  ⟨B, Ex, ρ, ω, Q, rep, q, fun b ω' H' q' k w => ⟨ω', k, w, q'⟩⟩
theorem dw_or1 (h : DP X W a tA) : DW X W (.BoolOp .Or [a] pos) tA := DW.of (pw_or1 h.pt) fun B Ex ρ ω σ H Q rep q =>
  ⟨B, Ex, ρ, ω, Q, rep, q, fun b ω' H' q' k w => ⟨ω', k, w, q'⟩⟩
theorem dw_and (h : DP X W a tA) (h2 : DW X W (.BoolOp .And (b :: rest) pos) tB) : DW X W (.BoolOp .And (a :: b :: rest) pos) (dAnd tA tB) :=
  DW.of (pw_and h.pt h2.pw) fun B Ex ρ ω σ H Q rep q => ⟨B, Ex, ρ, ω, _, rep, q, fun c ω1 H1 q1 k1 w1 => by
    cases c with
    | true => exact ⟨B, Ex, ρ, ω1, _, rep.go k1 w1, q1, fun d ω2 H2 q2 k2 w2 => ⟨ω2, k1.trans k2, w2, q2⟩⟩
    | false => exact ⟨ω1, k1, w1, q1⟩⟩
theorem dw_or (h : DP X W a tA) (h2 : DW X W (.BoolOp .Or (b :: rest) pos) tB) : DW X W (.BoolOp .Or (a :: b :: rest) pos) (dOr tA tB) :=
  DW.of (pw_or h.pt h2.pw) fun B Ex ρ ω σ H Q rep q => ⟨B, Ex, ρ, ω, _, rep, q, fun c ω1 H1 q1 k1 w1 => by
    cases c with
    | false => exact ⟨B, Ex, ρ, ω1, _, rep.go k1 w1, q1, fun d ω2 H2 q2 k2 w2 => ⟨ω2, k1.trans k2, w2, q2⟩⟩
    | true => exact ⟨ω1, k1, w1, q1⟩⟩
theorem dp_not (h : DP X W a tA) : DP X W (.UnaryOp .Not a pos) (dNot tA) := DP.of (pt_not h.pt) fun B Ex ρ ω σ H Q rep q =>
  ⟨B, Ex, ρ, ω, _, rep, q, fun b ω' H' q' k w => ⟨ω', k, w, q'⟩⟩
/-- as values -/
def dAndV {W : Wo} (ta tb : DT W) : DT W := fun ρ ω Q => ta ρ ω fun x ω1 => ∃ c, x = .bl c ∧ if c = true then tb ρ ω1 Q else Q (.bl false) ω1
def dOrV {W : Wo} (ta tb : DT W) : DT W := fun ρ ω Q => ta ρ ω fun x ω1 => ∃ c, x = .bl c ∧ if c = true then Q (.bl true) ω1 else tb ρ ω1 Q
def dNotV {W : Wo} (ta : DT W) : DT W := fun ρ ω Q => ta ρ ω fun x ω1 => ∃ c, x = .bl c ∧ Q (.bl (!c)) ω1
theorem de_one {op} (h : DE X W a ta) : DE X W (.BoolOp op [a] pos) ta := DX.of (pe_one h.pe) fun B Ex ρ ω σ H Q rep q =>
  ⟨B, Ex, ρ, ω, Q, rep, q, fun d ω' v H' q' k w z => ⟨d, ω', k, w, z, q'⟩⟩
theorem de_and (h : DE X W a ta) (h2 : DE X W (.BoolOp .And (b :: rest) pos) tb) : DE X W (.BoolOp .And (a :: b :: rest) pos) (dAndV ta tb) :=
  DX.of (pe_and h.pe h2.pe) fun B Ex ρ ω σ H Q rep q => ⟨B, Ex, ρ, ω, _, rep, q, fun d ω1 v H1 ⟨c, e, q1⟩ k1 w1 z => by
    subst e
    cases z
    refine ⟨c, rfl, ?_⟩
    cases c with
    | true => exact ⟨B, Ex, ρ, ω1, _, rep.go k1 w1, q1, fun d ω2 v H2 q2 k2 w2 z2 => ⟨d, ω2, k1.trans k2, w2, z2, q2⟩⟩
    | false => exact ⟨_, ω1, k1, w1, .bl false, q1⟩⟩
theorem de_or (h : DE X W a ta) (h2 : DE X W (.BoolOp .Or (b :: rest) pos) tb) : DE X W (.BoolOp .Or (a :: b :: rest) pos) (dOrV ta tb) :=
  DX.of (pe_or h.pe h2.pe) fun B Ex ρ ω σ H Q rep q => ⟨B, Ex, ρ, ω, _, rep, q, fun d ω1 v H1 ⟨c, e, q1⟩ k1 w1 z => by
    subst e
    cases z
    refine ⟨c, rfl, ?_⟩
    cases c with
    | false => exact ⟨B, Ex, ρ, ω1, _, rep.go k1 w1, q1, fun d ω2 v H2 q2 k2 w2 z2 => ⟨d, ω2, k1.trans k2, w2, z2, q2⟩⟩
    | true => exact ⟨_, ω1, k1, w1, .bl true, q1⟩⟩
theorem de_not (h : DE X W a ta) : DE X W (.UnaryOp .Not a pos) (dNotV ta) :=
  DX.of (pe_not h.pe) fun B Ex ρ ω σ H Q rep q => ⟨B, Ex, ρ, ω, _, rep, q, fun d ω1 v H1 ⟨c, e, q1⟩ k1 w1 z => by
    subst e
    cases z
    exact ⟨c, rfl, _, ω1, k1, w1, .bl _, q1⟩⟩
def dIf {W : Wo} (t : DB W) (ta tb : DT W) : DT W := fun ρ ω Q => t ρ ω fun c ω1 => if c = true then ta ρ ω1 Q else tb ρ ω1 Q
theorem de_if {R : RQ} (hc : DP X W c tA) (ha : DX R X W a ta) (hb : DX R X W b tb) : DX R X W (.IfExp c a b pos) (dIf tA ta tb) :=
  DX.of (pe_ifExp hc.pt ha.pe hb.pe) fun B Ex ρ ω σ H Q rep q => ⟨B, Ex, ρ, ω, _, rep, q, fun c ω1 H1 q1 k1 w1 => by
    cases c with
    | true => exact ⟨B, Ex, ρ, ω1, _, rep.go k1 w1, q1, fun d ω2 v H2 q2 k2 w2 z2 => ⟨d, ω2, k1.trans k2, w2, z2, q2⟩⟩
    | false => exact ⟨B, Ex, ρ, ω1, _, rep.go k1 w1, q1, fun d ω2 v H2 q2 k2 w2 z2 => ⟨d, ω2, k1.trans k2, w2, z2, q2⟩⟩⟩
/-- is None -/
def dIsN {W : Wo} (n : Bool) (ta : DT W) : DT W := fun ρ ω Q => ta ρ ω fun x ω1 => Q (.bl (match x with | .non => !n | _ => n)) ω1
theorem Dq.non_iff {H : Hp} {Ex : Addr → Prop} {v : V} {d : D} (h : Dq H Ex v d) (n : Bool) : (if decide (v = .non) = true then !n else n) = (match d with | .non => !n | _ => n) := by
  cases h <;> rfl
end
/-! ## argument lists, displays, calls -/
section
variable {X : Cx} {W : Wo} {e : Expr} {es : List Expr} {pos : Pos} {ta : DT W} {tl : DA W}
def dNil {W : Wo} : DA W := fun _ ω Q => Q [] ω
def dCons {W : Wo} (ta : DT W) (tl : DA W) : DA W := fun ρ ω Q => ta ρ ω fun x ω1 => tl ρ ω1 fun xs ω2 => Q (x :: xs) ω2
theorem dl_nil : DL X W [] dNil := DL.of pa_nil fun B Ex ρ ω σ H Q rep q => ⟨[], ω, Kp.refl, rep.wo, .nil, q⟩
theorem dl_cons (h : DE X W e ta) (h2 : DL X W es tl) (hs : starEach (e :: es) X.env = (false, eval e X.env) :: starEach es X.env := by rfl) : DL X W (e :: es) (dCons ta tl) :=
  DL.of (pa_cons h.pe h2.pa hs) fun B Ex ρ ω σ H Q rep q => ⟨B, Ex, ρ, ω, _, rep, q, fun d ω1 v H1 q1 k1 w1 z1 =>
    ⟨B, Ex, ρ, ω1, _, rep.go k1 w1, q1, fun ds ω2 vs H2 q2 k2 w2 z2 => ⟨d :: ds, ω2, k1.trans k2, w2, .cons ((rep.go k1 w1).keep k2 z1) z2, q2⟩⟩⟩
def dTup {W : Wo} (tl : DA W) : DT W := fun ρ ω Q => tl ρ ω fun ds ω1 => ds.length ≤ sizeLine ∧ Q (.tup ds) ω1
def dLst {W : Wo} (tl : DA W) : DT W := fun ρ ω Q => tl ρ ω fun ds ω1 => ds.length ≤ sizeLine ∧ Q (.lst ds) ω1
theorem de_tup {x1} (h : DL X W es tl) : DE X W (.Tuple es x1 pos) (dTup tl) := DX.of (pe_tup h.pa) fun B Ex ρ ω σ H Q rep q =>
  ⟨B, Ex, ρ, ω, _, rep, q, fun ds ω1 vs H1 ⟨l, q1⟩ k1 w1 z1 => ⟨by rw [z1.length]; exact l, fun p n =>
    ⟨_, ω1, k1.trans (Kp.same (same_upd n)), W.gr w1 (same_upd n), .tup upd_same ((rep.go k1 w1).new n) (z1.same (same_upd n)), q1⟩⟩⟩
theorem de_lst (h : DL X W es tl) : DE X W (.List es pos) (dLst tl) := DX.of (pe_lst h.pa) fun B Ex ρ ω σ H Q rep q =>
  ⟨B, Ex, ρ, ω, _, rep, q, fun ds ω1 vs H1 ⟨l, q1⟩ k1 w1 z1 => ⟨by rw [z1.length]; exact l, fun p n =>
    ⟨_, ω1, k1.trans (Kp.same (same_upd n)), W.gr w1 (same_upd n), .lst upd_same ((rep.go k1 w1).new n) (z1.same (same_upd n)), q1⟩⟩⟩
/-- a def's promise over data -/
abbrev Spd (W : Wo) := List D → W.Om → (D → W.Om → Prop) → Prop
def spOf (W : Wo) (S : Spd W) : Sp := fun vs H Q _ => ∃ Ex ω ds Q0, W.at Ex ω H ∧ (∀ a, W.Mu a → Ex a) ∧ (∀ a, Ex a → H a ≠ none) ∧ DqL H Ex vs ds ∧ S ds ω Q0 ∧
  ∀ d ω' v H', Q0 d ω' → Kp W H H' → W.at Ex ω' H' → Dq H' Ex v d → Q v H'
def dCall {W : Wo} (S : Spd W) (dvs : List D) (tl : DA W) : DT W := fun ρ ω Q => tl ρ ω fun ds ω1 => S (ds ++ dvs) ω1 Q
/-- the written defaults, ints and texts -/
inductive Flat : V → D → Prop
  | int (i : Int) : Flat (.int i) (.int i)
  | non : Flat .non .non
  | str (x : Str) : Flat (.str x) (.str x)
  | bl (b : Bool) : Flat (.bl b) (.bl b)
theorem Flat.dq {H : Hp} {Ex : Addr → Prop} {v : V} {d : D} (h : Flat v d) : Dq H Ex v d := by
  cases h with
  | int i => exact .int i
  | non => exact .non
  | str x => exact .str x
  | bl b => exact .bl b
theorem flats {H : Hp} {Ex : Addr → Prop} : ∀ {vs : List V} {ds : List D}, Paired Flat vs ds → DqL H Ex vs ds
  | _, _, .nil => .nil
  | _, _, .cons h t => .cons h.dq (flats t)
theorem de_cl {k : Nat} {f : Addr} {fd : FuncData} {ps : List Str} {S : Spd W} {dvs : List V} {dds : List D} {dus : List Value} {x : Str} {p : Pos} (F : FnG X.prog X.w X.K X.mg X.base CX0 k f fd ps (spOf W S)) (g : Gd X.A) (hr : Room k X.A)
    (hg : Gl X x) (hm : X.mg x = some (.ref f)) (hk : PySem.W.keepIn X.K (.ref f) = true) (hb : Binds X.K fd ps dus) (hd : Vals dvs dus) (hf : Paired Flat dvs dds) (ha : DL X W (e :: es) tl)
    (hdb : (x == ("__debug__" : Str)) = false := by decide) (he : starEach (e :: es) X.env = (false, eval e X.env) :: starEach es X.env := by rfl) (hpl : (backTo pos (starEach es X.env)).any (·.1) = false := by rfl) :
    DE X W (.Call (.Name x p) (e :: es) [] pos) (dCall S dds tl) :=
  DX.of (pe_cl F g hr hg hm hk hb hd pass0 ha.pa hdb he hpl) fun B Ex ρ ω σ H Q rep q => ⟨B, Ex, ρ, ω, _, rep, q, fun ds ω1 vs H1 q1 k1 w1 z1 =>
    ⟨Ex, ω1, ds ++ dds, Q, w1, fun _ m => rep.muEx m, (rep.go k1 w1).tr, z1.append (flats hf), q1, fun d ω2 v H2 q2 k2 w2 z2 => ⟨d, ω2, k1.trans k2, w2, z2, q2⟩⟩⟩
/-- a built-in by its values, as data -/
def Fn1 (X : Cx) (W : Wo) (f : Value) (g : List D → Option D) : Prop :=
  ∃ r : List V → Hp → VK → Prop, CallR X f r ∧ ∀ {H : Hp} {Ex : Addr → Prop} {vs : List V} {ds : List D} {z : D} {Q : VK}, (∀ a, Ex a → H a ≠ none) → Paired (Bq W H Ex) vs ds → g ds = some z →
    (∀ v H', Same H H' → Dq H' Ex v z → Q v H') → r vs H Q
def dFn {W : Wo} (g : List D → Option D) (tl : DA W) : DT W := fun ρ ω Q => tl ρ ω fun ds ω1 => ∃ z, g ds = some z ∧ Q z ω1
end
end Tk

namespace Tk
open PySem PySem.Spec PyProof.Rows L2

/-! ## data as the library's data -/
mutual
def D.py : D → PyData
  | .non => .none
  | .bl b => .bool b
  | .int i => .int i
  | .str x => .str x
  | .lst xs => .list (D.pyL xs)
  | .tup xs => .tuple (D.pyL xs)
  | .dic kvs => .dict (D.pyK kvs)
  | .ob _ => .none
def D.pyL : List D → List PyData
  | [] => []
  | d :: ds => d.py :: D.pyL ds
def D.pyK : List (Key × D) → List (PyData × PyData)
  | [] => []
  | (k, d) :: ds => ((match k with | .inl i => PyData.int i | .inr x => PyData.str x), d.py) :: D.pyK ds
end
mutual
/-- no opaque thing within -/
def D.pl : D → Bool
  | .ob _ => false
  | .lst xs => D.plL xs
  | .tup xs => D.plL xs
  | .dic kvs => D.plK kvs
  | .non => true | .bl _ => true | .int _ => true | .str _ => true
def D.plL : List D → Bool
  | [] => true
  | d :: ds => d.pl && D.plL ds
def D.plK : List (Key × D) → Bool
  | [] => true
  | (_, d) :: ds => d.pl && D.plK ds
end
mutual
/-- no opaque thing, no dict within -/
def D.pn : D → Bool
  | .ob _ => false
  | .lst xs => D.pnL xs
  | .tup xs => D.pnL xs
  | .dic _ => false
  | .non => true | .bl _ => true | .int _ => true | .str _ => true
def D.pnL : List D → Bool
  | [] => true
  | d :: ds => d.pn && D.pnL ds
end

section
variable {X : Cx} {pins : List (Addr × Obj)} {σ : List (Option V)} {H : Hp} {Ex : Addr → Prop} {s : Shared} {W : Wo}
mutual
theorem Dq.dp {K : PySem.W.Frag} : ∀ {v : V} {d : D}, Dq H Ex v d → d.pn = true → Dp K H v d.py
  | _, _, .non, _ => .non
  | _, _, .bl b, _ => .bl b
  | _, _, .int i, _ => .int i
  | _, _, .str x, _ => .str x
  | _, _, .lst h _ l, e => .lst (SqL.of h) (DqL.dp l e)
  | _, _, .tup h _ l, e => .tup (SqT.of h) (DqL.dp l e)
theorem DqL.dp {K : PySem.W.Frag} : ∀ {v : List V} {d : List D}, DqL H Ex v d → D.pnL d = true → DpAll K H v (D.pyL d)
  | _, _, .nil, _ => .nil
  | _, _, .cons h t, e => by
    have e' := (Bool.and_eq_true_iff.mp e)
    exact .cons (Dq.dp h e'.1) (DqL.dp t e'.2)
end
theorem Bq.dp {K : PySem.W.Frag} {v : V} {d : D} (h : Bq W H Ex v d) (e : d.pn = true) : Dp K H v d.py := by
  cases h with
  | of q => exact q.dp e
  | lst h1 _ h2 => exact .lst (SqL.of h1) (h2.dp e)
  | dic h1 _ h2 => exact absurd e (by simp [D.pn])
/-- no tracked thing stands at sys.modules' place -/
abbrev BaseS (base : Heap) : Prop := ∃ o, base.get? sysModules = some o
theorem noSys (hb : BaseS X.base) (I : Inv X pins σ H s) : H sysModules = none := by
  obtain ⟨o, e⟩ := hb
  exact (I.bs _ _ e).2
mutual
theorem Dq.reads (hb : BaseS X.base) (I : Inv X pins σ H s) : ∀ (d : D) (v : V) (u : Value), Dq H Ex v d → d.pl = true → RelV v u → ∃ as, Reads s.heap u d.py as ∧ sysModules ∉ as
  | .non, _, _, .non, _, r => by cases r; exact ⟨_, Reads.none, by simp⟩
  | .bl b, _, _, .bl _, _, r => by cases r; exact ⟨_, Reads.bool b, by simp⟩
  | .int i, _, _, .int _, _, r => by obtain ⟨t, rfl⟩ := r; exact ⟨_, Reads.int i t, by simp⟩
  | .str x, _, _, .str _, _, r => by obtain ⟨t, rfl⟩ := r; exact ⟨_, Reads.str x t, by simp⟩
  | .lst ds, _, _, .lst h _ l, e, r => by
    cases r
    obtain ⟨its, rv, ⟨o, n, ho, hc, _, hd⟩, _⟩ := I.list (SqL.of (K := X.K) h)
    obtain ⟨as, hr, hn⟩ := DqL.reads hb I ds _ its l e rv
    refine ⟨_, Reads.list ho hc hd hr, fun z => ?_⟩
    rcases List.mem_cons.mp z with z | z
    · rw [← z, noSys hb I] at h; cases h
    · exact hn z
  | .tup ds, _, _, .tup h _ l, e, r => by
    cases r
    obtain ⟨its, rv, ⟨o, ho, hc, n, hd⟩, _⟩ := I.tuple (SqT.of (K := X.K) h)
    obtain ⟨as, hr, hn⟩ := DqL.reads hb I ds _ its l e rv
    exact ⟨_, Reads.tuple ho hc hd hr, hn⟩
  | .dic ds, _, _, .dic h _ l, e, r => by
    cases r
    obtain ⟨_, hs, vs, rel, o, es, ep, ho, hx, hd, _, hp, _⟩ := dk_of I.hok h
    obtain ⟨as, bs, h1, h2, n1, n2⟩ := DqK.reads hb I ds _ vs es.toList l e rel hp
    refine ⟨_, Reads.dict ho hx.1 hd h1 h2, fun z => ?_⟩
    rcases List.mem_append.mp z with z | z
    · rcases List.mem_cons.mp z with z | z
      · rw [← z, noSys hb I] at h; cases h
      · exact n1 z
    · exact n2 z
theorem DqL.reads (hb : BaseS X.base) (I : Inv X pins σ H s) : ∀ (ds : List D) (vs : List V) (us : List Value), DqL H Ex vs ds → D.plL ds = true → Vals vs us → ∃ as, ReadsAll s.heap us (D.pyL ds) as ∧ sysModules ∉ as
  | [], _, _, .nil, _, r => by cases r; exact ⟨_, ReadsAll.nil, by simp⟩
  | d :: ds, _, _, .cons h t, e, r => by
    have e' := Bool.and_eq_true_iff.mp e
    cases r with
    | cons r1 r2 =>
      obtain ⟨as, q1, n1⟩ := Dq.reads hb I d _ _ h e'.1 r1
      obtain ⟨bs, q2, n2⟩ := DqL.reads hb I ds _ _ t e'.2 r2
      exact ⟨_, ReadsAll.cons q1 q2, fun z => (List.mem_append.mp z).elim n1 n2⟩
theorem DqK.reads (hb : BaseS X.base) (I : Inv X pins σ H s) : ∀ (ds : List (Key × D)) (vs : List (Key × V)) (us : List (Key × Value)) (es : List DictEntry), DqK H Ex vs ds → D.plK ds = true → KV vs us → Pairs (mixKind X.prog X.w) es us →
    ∃ as bs, ReadsAll s.heap (es.map (·.key)) ((D.pyK ds).map (·.1)) as ∧ ReadsAll s.heap (es.map (·.val)) ((D.pyK ds).map (·.2)) bs ∧ sysModules ∉ as ∧ sysModules ∉ bs
  | [], _, _, _, .nil, _, r, p => by cases r; cases p; exact ⟨_, _, ReadsAll.nil, ReadsAll.nil, by simp, by simp⟩
  | (k, d) :: ds, _, _, _, .cons h t, e, r, p => by
    have e' := Bool.and_eq_true_iff.mp e
    cases r with
    | cons r1 r2 =>
      cases p with
      | cons p1 p2 p3 =>
        obtain ⟨ek, r1⟩ := r1
        obtain ⟨as, q1, n1⟩ := Dq.reads hb I d _ _ h e'.1 r1
        obtain ⟨bs, cs, q2, q3, n2, n3⟩ := DqK.reads hb I ds _ _ _ t e'.2 r2 p3
        have hk : ∀ kk u, keyIs kk u = true → ∃ as, Reads s.heap u (match kk with | .inl i => PyData.int i | .inr x => PyData.str x) as ∧ sysModules ∉ as := fun kk u hu => by
          rcases keyIs_shape hu with ⟨i, t, rfl, rfl⟩ | ⟨x, t, rfl, rfl⟩
          · exact ⟨_, Reads.int i t, by simp⟩
          · exact ⟨_, Reads.str x t, by simp⟩
        obtain ⟨ks, qk, nk⟩ := hk k _ (by rw [← mixKind_is X.prog X.w]; rw [show k = _ from ek]; exact p1)
        refine ⟨ks ++ bs, as ++ cs, ReadsAll.cons qk q2, ReadsAll.cons (by rw [← p2] at q1; exact q1) q3, fun z => (List.mem_append.mp z).elim nk n2, fun z => (List.mem_append.mp z).elim n1 n3⟩
end
theorem Bq.reads (hb : BaseS X.base) (I : Inv X pins σ H s) {d : D} {v : V} {u : Value} (h : Bq W H Ex v d) (e : d.pl = true) (r : RelV v u) : ∃ as, Reads s.heap u d.py as ∧ sysModules ∉ as := by
  cases h with
  | of q => exact Dq.reads hb I _ _ _ q e r
  | lst h1 h2 h3 => exact Dq.reads (Ex := fun z => Ex z ∧ z ≠ _) hb I _ _ _ (.lst h1 (fun z => z.2 rfl) (h3.to fun a o e n => ⟨e, fun z => n z.1⟩)) e r
  | dic h1 h2 h3 => exact Dq.reads (Ex := fun z => Ex z ∧ z ≠ _) hb I _ _ _ (.dic h1 (fun z => z.2 rfl) (h3.to fun a o e n => ⟨e, fun z => n z.1⟩)) e r
end

/-! ## operators -/
def addD : D → D → Option D
  | .int a, .int b => some (.int (a + b))
  | .str a, .str b => if a.length + b.length ≤ sizeLine then some (.str (a ++ b)) else none
  | .lst a, .lst b => if a.length + b.length ≤ sizeLine then some (.lst (a ++ b)) else none
  | .tup a, .tup b => if a.length + b.length ≤ sizeLine then some (.tup (a ++ b)) else none
  | _, _ => none
def subD : D → D → Option D
  | .int a, .int b => some (.int (a - b))
  | _, _ => none
def mulD : D → D → Option D
  | .int a, .int b => if (-(2 ^ 64) < a ∧ a < 2 ^ 64) ∨ (-(2 ^ 64) < b ∧ b < 2 ^ 64) then some (.int (a * b)) else none
  | _, _ => none
def divD : D → D → Option D
  | .int a, .int b => if 0 < b ∧ b < 1073741824 then some (.int (a / b)) else none
  | _, _ => none
def modD : D → D → Option D
  | .int a, .int b => if 0 < b then some (.int (a % b)) else none
  | _, _ => none
def powD : D → D → Option D
  | .int a, .int b => if 0 ≤ b ∧ b ≤ 1000000 ∧ a.natAbs < 2 ^ 64 then some (.int (a ^ b.toNat)) else none
  | _, _ => none
section
variable {X : Cx} {W : Wo}
theorem o_add : Op2 X W (binaryOp .Add) addD := by
  refine ⟨_, op_add.or (op_add_str.or (op_cat.or op_catA)), ?_⟩
  intro H Ex x y dx dy z Q tr hx hy e k
  unfold addD at e
  split at e
  · cases e; exact .inl ⟨_, _, hx.ofI, hy.ofI, k _ _ (Same.refl H) (.int _)⟩
  · split at e
    · cases e; exact .inr (.inl ⟨_, _, hx.ofS, hy.ofS, by assumption, k _ _ (Same.refl H) (.str _)⟩)
    · cases e
  · split at e
    · rename_i hz
      cases e
      obtain ⟨a, vs, rfl, h1, h2⟩ := hx.ofL
      obtain ⟨b, ws, rfl, g1, g2⟩ := hy.ofL
      refine .inr (.inr (.inl ⟨a, b, vs, ws, rfl, rfl, h1, g1, by rw [h2.length, g2.length]; exact hz, fun p n => k _ _ (same_upd n) ?_⟩))
      exact .lst upd_same (fun m => tr p m n) ((h2.append g2).same (same_upd n))
    · cases e
  · split at e
    · rename_i hz
      cases e
      obtain ⟨a, vs, rfl, h1, n1, h2⟩ := hx.ofT
      obtain ⟨b, ws, rfl, g1, n2, g2⟩ := hy.ofT
      refine .inr (.inr (.inr ⟨a, b, vs, ws, rfl, rfl, SqT.of h1, SqT.of g1, by rw [h2.length, g2.length]; exact hz, ?_⟩))
      refine ⟨fun q => k _ _ (Same.refl H) ?_, fun q q2 => k _ _ (Same.refl H) ?_, fun q q2 p n => k _ _ (same_upd n) ?_⟩
      · subst q
        cases h2
        exact .tup g1 n2 g2
      · subst q2
        cases g2
        rw [List.append_nil]
        exact .tup h1 n1 h2
      · exact .tup upd_same (fun m => tr p m n) ((h2.append g2).same (same_upd n))
    · cases e
  · cases e
theorem o_sub : Op2 X W (binaryOp .Sub) subD := by
  refine ⟨_, op_sub, ?_⟩
  intro H Ex x y dx dy z Q tr hx hy e k
  unfold subD at e
  split at e
  · cases e; exact ⟨_, _, hx.ofI, hy.ofI, k _ _ (Same.refl H) (.int _)⟩
  · cases e
theorem o_mul : Op2 X W (binaryOp .Mult) mulD := by
  refine ⟨_, op_mul, ?_⟩
  intro H Ex x y dx dy z Q tr hx hy e k
  unfold mulD at e
  split at e
  · split at e
    · cases e; exact ⟨_, _, hx.ofI, hy.ofI, by assumption, k _ _ (Same.refl H) (.int _)⟩
    · cases e
  · cases e
theorem o_div : Op2 X W (binaryOp .FloorDiv) divD := by
  refine ⟨_, op_fdiv, ?_⟩
  intro H Ex x y dx dy z Q tr hx hy e k
  unfold divD at e
  split at e
  · split at e
    · cases e; exact ⟨_, _, hx.ofI, hy.ofI, by assumption, k _ _ (Same.refl H) (.int _)⟩
    · cases e
  · cases e
theorem o_mod : Op2 X W (binaryOp .Mod) modD := by
  refine ⟨_, op_mod, ?_⟩
  intro H Ex x y dx dy z Q tr hx hy e k
  unfold modD at e
  split at e
  · split at e
    · cases e; exact ⟨_, _, hx.ofI, hy.ofI, by assumption, k _ _ (Same.refl H) (.int _)⟩
    · cases e
  · cases e
theorem o_pow : Op2 X W (binaryOp .Pow) powD := by
  refine ⟨_, op_pow, ?_⟩
  intro H Ex x y dx dy z Q tr hx hy e k
  unfold powD at e
  split at e
  · split at e
    · cases e; exact ⟨_, _, hx.ofI, hy.ofI, by assumption, k _ _ (Same.refl H) (.int _)⟩
    · cases e
  · cases e
end

/-! ## comparisons -/
def scD : D → D → Bool
  | .non, .non => true | .non, .int _ => true | .int _, .non => true | .non, .bl _ => true | .bl _, .non => true | .non, .str _ => true | .str _, .non => true
  | .int _, .int _ => true | .bl _, .bl _ => true | .str _, .str _ => true
  | .int _, .str _ => true | .str _, .int _ => true | .bl _, .str _ => true | .str _, .bl _ => true
  | _, _ => false
/-- == as data -/
def eqv (x y : D) : Bool := PyData.eqv x.py y.py
def shp (x : D) : Bool := x.pn && SeqAt.shaped x.py
def eqD (x y : D) : Option D := if (scD x y || (shp x && shp y)) = true then some (.bl (eqv x y)) else none
def neD (x y : D) : Option D := if (scD x y || (shp x && shp y)) = true then some (.bl (!eqv x y)) else none
section
variable {X : Cx} {W : Wo}
theorem sc_ok {H : Hp} {Ex : Addr → Prop} {x y : V} {dx dy : D} (hx : Bq W H Ex x dx) (hy : Bq W H Ex y dy) (h : scD dx dy = true) : scal x y = true ∧ decide (x = y) = eqv dx dy := by
  cases dx <;> cases dy <;> first | exact Bool.noConfusion h | skip
  all_goals first
    | (have e1 := hx.ofN; have e2 := hy.ofN; subst e1; subst e2; exact ⟨rfl, rfl⟩)
    | (have e1 := hx.ofN; have e2 := hy.ofI; subst e1; subst e2; exact ⟨rfl, rfl⟩)
    | (have e1 := hx.ofN; have e2 := hy.ofB; subst e1; subst e2; exact ⟨rfl, rfl⟩)
    | (have e1 := hx.ofN; have e2 := hy.ofS; subst e1; subst e2; exact ⟨rfl, rfl⟩)
    | (have e1 := hx.ofI; have e2 := hy.ofN; subst e1; subst e2; exact ⟨rfl, rfl⟩)
    | (have e1 := hx.ofB; have e2 := hy.ofN; subst e1; subst e2; exact ⟨rfl, rfl⟩)
    | (have e1 := hx.ofS; have e2 := hy.ofN; subst e1; subst e2; exact ⟨rfl, rfl⟩)
    | (have e1 := hx.ofI; have e2 := hy.ofI; subst e1; subst e2; exact ⟨rfl, dec_int⟩)
    | (have e1 := hx.ofB; have e2 := hy.ofB; subst e1; subst e2; exact ⟨rfl, dec_bl⟩)
    | (have e1 := hx.ofS; have e2 := hy.ofS; subst e1; subst e2; exact ⟨rfl, dec_str⟩)
    | (have e1 := hx.ofI; have e2 := hy.ofS; subst e1; subst e2; exact ⟨rfl, rfl⟩)
    | (have e1 := hx.ofS; have e2 := hy.ofI; subst e1; subst e2; exact ⟨rfl, rfl⟩)
    | (have e1 := hx.ofB; have e2 := hy.ofS; subst e1; subst e2; exact ⟨rfl, rfl⟩)
    | (have e1 := hx.ofS; have e2 := hy.ofB; subst e1; subst e2; exact ⟨rfl, rfl⟩)
theorem o_eq (hu : X.A.units + 64 < cLine) : Op2 X W (compareOp .Eq) eqD := by
  refine ⟨_, op_eq.or (op_eqD hu), ?_⟩
  intro H Ex x y dx dy z Q tr hx hy e k
  unfold eqD at e
  split at e
  · rename_i h
    cases e
    cases hs : scD dx dy with
    | true =>
      obtain ⟨h1, h2⟩ := sc_ok hx hy hs
      exact .inl ⟨h1, by rw [h2]; exact k _ _ (Same.refl H) (.bl _)⟩
    | false =>
      rw [hs, Bool.false_or] at h
      have h' := Bool.and_eq_true_iff.mp h
      have a1 := Bool.and_eq_true_iff.mp (show (dx.pn && SeqAt.shaped dx.py) = true from h'.1)
      have a2 := Bool.and_eq_true_iff.mp (show (dy.pn && SeqAt.shaped dy.py) = true from h'.2)
      exact .inr ⟨_, _, hx.dp a1.1, hy.dp a2.1, a1.2, a2.2, k _ _ (Same.refl H) (.bl _)⟩
  · cases e
theorem o_ne (hu : X.A.units + 64 < cLine) : Op2 X W (compareOp .NotEq) neD := by
  refine ⟨_, op_ne.or (op_neD hu), ?_⟩
  intro H Ex x y dx dy z Q tr hx hy e k
  unfold neD at e
  split at e
  · rename_i h
    cases e
    cases hs : scD dx dy with
    | true =>
      obtain ⟨h1, h2⟩ := sc_ok hx hy hs
      exact .inl ⟨h1, by rw [h2]; exact k _ _ (Same.refl H) (.bl _)⟩
    | false =>
      rw [hs, Bool.false_or] at h
      have h' := Bool.and_eq_true_iff.mp h
      have a1 := Bool.and_eq_true_iff.mp (show (dx.pn && SeqAt.shaped dx.py) = true from h'.1)
      have a2 := Bool.and_eq_true_iff.mp (show (dy.pn && SeqAt.shaped dy.py) = true from h'.2)
      exact .inr ⟨_, _, hx.dp a1.1, hy.dp a2.1, a1.2, a2.2, k _ _ (Same.refl H) (.bl _)⟩
  · cases e
end
def ltD : D → D → Option D
  | .int a, .int b => some (.bl (decide (a < b)))
  | .str a, .str b => some (.bl (decide (a.cps.toList < b.cps.toList)))
  | _, _ => none
def leD : D → D → Option D
  | .int a, .int b => some (.bl (decide (a ≤ b)))
  | _, _ => none
def gtD : D → D → Option D
  | .int a, .int b => some (.bl (decide (b < a)))
  | _, _ => none
def geD : D → D → Option D
  | .int a, .int b => some (.bl (decide (b ≤ a)))
  | _, _ => none
section
variable {X : Cx} {W : Wo}
theorem o_lt : Op2 X W (compareOp .Lt) ltD := by
  refine ⟨_, op_lt.or op_lt_str, ?_⟩
  intro H Ex x y dx dy z Q tr hx hy e k
  unfold ltD at e
  split at e
  · cases e; exact .inl ⟨_, _, hx.ofI, hy.ofI, k _ _ (Same.refl H) (.bl _)⟩
  · cases e; exact .inr ⟨_, _, hx.ofS, hy.ofS, k _ _ (Same.refl H) (.bl _)⟩
  · cases e
theorem o_le : Op2 X W (compareOp .LtE) leD := by
  refine ⟨_, op_le, ?_⟩
  intro H Ex x y dx dy z Q tr hx hy e k
  unfold leD at e
  split at e
  · cases e; exact ⟨_, _, hx.ofI, hy.ofI, k _ _ (Same.refl H) (.bl _)⟩
  · cases e
theorem o_gt : Op2 X W (compareOp .Gt) gtD := by
  refine ⟨_, op_gt, ?_⟩
  intro H Ex x y dx dy z Q tr hx hy e k
  unfold gtD at e
  split at e
  · cases e; exact ⟨_, _, hx.ofI, hy.ofI, k _ _ (Same.refl H) (.bl _)⟩
  · cases e
theorem o_ge : Op2 X W (compareOp .GtE) geD := by
  refine ⟨_, op_ge, ?_⟩
  intro H Ex x y dx dy z Q tr hx hy e k
  unfold geD at e
  split at e
  · cases e; exact ⟨_, _, hx.ofI, hy.ofI, k _ _ (Same.refl H) (.bl _)⟩
  · cases e
end
/-- a flat thing -/
def flt : D → Bool
  | .non => true | .bl _ => true | .int _ => true | .str _ => true
  | _ => false
/-- one sign in a text -/
def sign1 (x : Str) : Option Nat := match x.cps.toList with | [c] => some c | _ => none
def inD (neg : Bool) : D → D → Option D
  | .str x, .str y => (sign1 x).map fun c => .bl (if neg then !decide (c ∈ y.cps.toList) else decide (c ∈ y.cps.toList))
  | x, .lst ys => if (flt x && ys.all flt) = true then some (.bl (if neg then !ys.any (fun y => eqv y x) else ys.any (fun y => eqv y x))) else none
  | x, .tup ys => if (flt x && ys.all flt) = true then some (.bl (if neg then !ys.any (fun y => eqv y x) else ys.any (fun y => eqv y x))) else none
  | _, _ => none
theorem sign1_some {x : Str} {c : Nat} (h : sign1 x = some c) : x = ⟨#[c]⟩ := by
  obtain ⟨⟨l⟩⟩ := x
  unfold sign1 at h
  match l, h with
  | [c], h => cases h; rfl
section
variable {X : Cx} {W : Wo} {H : Hp} {Ex : Addr → Prop}
theorem flt_ok {x : V} {d : D} (h : Bq W H Ex x d) (f : flt d = true) : flatV x = true := by
  cases d <;> first | exact Bool.noConfusion f | skip
  · rw [h.ofN]; rfl
  · rw [h.ofB]; rfl
  · rw [h.ofI]; rfl
  · rw [h.ofS]; rfl
theorem eqV_ok {x y : V} {d e : D} (h : Bq W H Ex x d) (h' : Bq W H Ex y e) (f : flt d = true) (f' : flt e = true) : eqV x y = eqv d e := by
  cases d <;> first | exact Bool.noConfusion f | skip
  all_goals cases e <;> first | exact Bool.noConfusion f' | skip
  all_goals first
    | (rw [h.ofN, h'.ofN]; rfl)
    | (rw [h.ofN, h'.ofB]; rfl)
    | (rw [h.ofN, h'.ofI]; rfl)
    | (rw [h.ofN, h'.ofS]; rfl)
    | (rw [h.ofB, h'.ofN]; rfl)
    | (rw [h.ofB, h'.ofB]; rfl)
    | (rw [h.ofB, h'.ofI]; rfl)
    | (rw [h.ofB, h'.ofS]; rfl)
    | (rw [h.ofI, h'.ofN]; rfl)
    | (rw [h.ofI, h'.ofB]; rfl)
    | (rw [h.ofI, h'.ofI]; rfl)
    | (rw [h.ofI, h'.ofS]; rfl)
    | (rw [h.ofS, h'.ofN]; rfl)
    | (rw [h.ofS, h'.ofB]; rfl)
    | (rw [h.ofS, h'.ofI]; rfl)
    | (rw [h.ofS, h'.ofS]; rfl)
theorem inV_ok {x : V} {d : D} (h : Bq W H Ex x d) (f : flt d = true) : ∀ {vs : List V} {ds : List D}, DqL H Ex vs ds → ds.all flt = true → vs.all flatV = true ∧ inV x vs = ds.any fun y => eqv y d
  | _, _, .nil, _ => ⟨rfl, rfl⟩
  | _, _, .cons (v := v) (d := d') q t, e => by
    rw [List.all_cons] at e
    have e' := Bool.and_eq_true_iff.mp e
    obtain ⟨h1, h2⟩ := inV_ok h f t e'.2
    have h2' := h2
    unfold inV at h2'
    refine ⟨by rw [List.all_cons, flt_ok (W := W) (.of q) e'.1, h1]; rfl, ?_⟩
    unfold inV
    rw [List.any_cons, List.any_cons, eqV_ok (W := W) (.of q) h e'.1 f, h2']
theorem o_in : Op2 X W (compareOp .In) (inD false) := by
  refine ⟨_, op_in_sign.or op_in_seq, ?_⟩
  intro H Ex x y dx dy z Q tr hx hy e k
  unfold inD at e
  split at e
  · rename_i a b
    cases q : sign1 a with
    | none => rw [q] at e; cases e
    | some c =>
      rw [q] at e
      cases e
      have q' := sign1_some q
      subst q'
      exact .inl ⟨c, b, hx.ofS, hy.ofS, k _ _ (Same.refl H) (.bl _)⟩
  · split at e
    · rename_i h
      have h' := Bool.and_eq_true_iff.mp h
      cases e
      obtain ⟨a, vs, rfl, h1, h2⟩ := hy.ofL
      obtain ⟨f1, f2⟩ := inV_ok hx h'.1 h2 h'.2
      refine .inr ⟨a, vs, rfl, .inl (SqL.of h1), flt_ok hx h'.1, f1, ?_⟩
      rw [f2]
      exact k _ _ (Same.refl H) (.bl _)
    · cases e
  · split at e
    · rename_i h
      have h' := Bool.and_eq_true_iff.mp h
      cases e
      obtain ⟨a, vs, rfl, h1, _, h2⟩ := hy.ofT
      obtain ⟨f1, f2⟩ := inV_ok hx h'.1 h2 h'.2
      refine .inr ⟨a, vs, rfl, .inr (SqT.of h1), flt_ok hx h'.1, f1, ?_⟩
      rw [f2]
      exact k _ _ (Same.refl H) (.bl _)
    · cases e
  · cases e
theorem o_notin : Op2 X W (compareOp .NotIn) (inD true) := by
  refine ⟨_, op_notIn_sign.or op_notIn_seq, ?_⟩
  intro H Ex x y dx dy z Q tr hx hy e k
  unfold inD at e
  split at e
  · rename_i a b
    cases q : sign1 a with
    | none => rw [q] at e; cases e
    | some c =>
      rw [q] at e
      cases e
      have q' := sign1_some q
      subst q'
      exact .inl ⟨c, b, hx.ofS, hy.ofS, k _ _ (Same.refl H) (.bl _)⟩
  · split at e
    · rename_i h
      have h' := Bool.and_eq_true_iff.mp h
      cases e
      obtain ⟨a, vs, rfl, h1, h2⟩ := hy.ofL
      obtain ⟨f1, f2⟩ := inV_ok hx h'.1 h2 h'.2
      refine .inr ⟨a, vs, rfl, .inl (SqL.of h1), flt_ok hx h'.1, f1, ?_⟩
      rw [f2]
      exact k _ _ (Same.refl H) (.bl _)
    · cases e
  · split at e
    · rename_i h
      have h' := Bool.and_eq_true_iff.mp h
      cases e
      obtain ⟨a, vs, rfl, h1, _, h2⟩ := hy.ofT
      obtain ⟨f1, f2⟩ := inV_ok hx h'.1 h2 h'.2
      refine .inr ⟨a, vs, rfl, .inr (SqT.of h1), flt_ok hx h'.1, f1, ?_⟩
      rw [f2]
      exact k _ _ (Same.refl H) (.bl _)
    · cases e
  · cases e
end
end Tk

namespace Tk
open PySem PySem.Spec PyProof.Rows L2

/-! ## more expressions -/
section
variable {R S : RQ} {X : Cx} {W : Wo} {a b c e : Expr} {pos : Pos} {ta tb tc : DT W}
def dNeg {W : Wo} (ta : DT W) : DT W := fun ρ ω Q => ta ρ ω fun x ω1 => ∃ i, x = .int i ∧ Q (.int (-i)) ω1
theorem de_neg (h : DE X W a ta) : DE X W (.UnaryOp .USub a pos) (dNeg ta) := DX.of (pe_un un_neg h.pe) fun B Ex ρ ω σ H Q rep q =>
  ⟨B, Ex, ρ, ω, _, rep, q, fun d ω1 v H1 ⟨i, e, q1⟩ k1 w1 z => by
    subst e
    cases z
    exact ⟨i, rfl, _, ω1, k1, w1, .int _, q1⟩⟩
def isN : D → Bool
  | .non => true
  | _ => false
theorem Dq.isN {H : Hp} {Ex : Addr → Prop} {v : V} {d : D} (h : Dq H Ex v d) : decide (v = .non) = isN d := by
  cases h <;> rfl
def dIs {W : Wo} (ta : DT W) : DT W := fun ρ ω Q => ta ρ ω fun x ω1 => Q (.bl (isN x)) ω1
def dIsNot {W : Wo} (ta : DT W) : DT W := fun ρ ω Q => ta ρ ω fun x ω1 => Q (.bl (!isN x)) ω1
theorem de_is {j p'} (h : DE X W a ta) : DE X W (.Compare a [.Is] [.Constant .none j p'] pos) (dIs ta) := DX.of (pe_cmp (pc_isN h.pe)) fun B Ex ρ ω σ H Q rep q =>
  ⟨B, Ex, ρ, ω, _, rep, q, fun d ω1 v H1 q1 k1 w1 z => ⟨_, ω1, k1, w1, .bl _, by rw [Dq.isN z]; exact q1⟩⟩
theorem de_isnot {j p'} (h : DE X W a ta) : DE X W (.Compare a [.IsNot] [.Constant .none j p'] pos) (dIsNot ta) := DX.of (pe_cmp (pc_notN h.pe)) fun B Ex ρ ω σ H Q rep q =>
  ⟨B, Ex, ρ, ω, _, rep, q, fun d ω1 v H1 q1 k1 w1 z => ⟨_, ω1, k1, w1, .bl _, by rw [Dq.isN z]; exact q1⟩⟩
theorem dp_is {j p'} (h : DE X W a ta) : DP X W (.Compare a [.Is] [.Constant .none j p'] pos) (dTst (dIs ta)) := DP.of (pt_cmp (pc_isN h.pe)) fun B Ex ρ ω σ H Q rep q =>
  ⟨B, Ex, ρ, ω, _, rep, q, fun d ω1 v H1 ⟨b, e, q1⟩ k1 w1 z => ⟨b, by rw [Dq.isN z]; exact (D.bl.inj e) ▸ rfl, ω1, k1, w1, q1⟩⟩
theorem dp_isnot {j p'} (h : DE X W a ta) : DP X W (.Compare a [.IsNot] [.Constant .none j p'] pos) (dTst (dIsNot ta)) := DP.of (pt_cmp (pc_notN h.pe)) fun B Ex ρ ω σ H Q rep q =>
  ⟨B, Ex, ρ, ω, _, rep, q, fun d ω1 v H1 ⟨b, e, q1⟩ k1 w1 z => ⟨b, by rw [Dq.isN z]; exact (D.bl.inj e) ▸ rfl, ω1, k1, w1, q1⟩⟩
/-- a op b op' c -/
def dCh {W : Wo} (g g' : D → D → Option D) (ta tb tc : DT W) : DT W := fun ρ ω Q => ta ρ ω fun x ω1 => tb ρ ω1 fun y ω2 => ∃ k, g x y = some (.bl k) ∧
  if k = true then tc ρ ω2 fun z ω3 => ∃ w, g' y z = some w ∧ Q w ω3 else Q (.bl false) ω2
theorem de_ch [Stab R] [Stab S] {T : RQ} [Stab T] {op op' : CmpOp} {g g' : D → D → Option D} (ho : Op2 X W (compareOp op) g) (ho' : Op2 X W (compareOp op') g') (ha : DX R X W a ta) (hb : DX S X W b tb) (hc : DX T X W c tc)
    (hm : lastMarks [op, op'] [b, c] = false := by with_unfolding_all rfl) : DE X W (.Compare a [op, op'] [b, c] pos) (dCh g g' ta tb tc) := by
  obtain ⟨r, h1, h2⟩ := ho
  obtain ⟨r', h1', h2'⟩ := ho'
  refine DX.of (pe_chain h1 h1' ha.pe hb.pe hc.pe hm) fun B Ex ρ ω σ H Q rep q => two rep q fun x y dx dy H2 ω2 k rp zx zy ⟨c, e, q2⟩ => ?_
  refine h2 rp.tr (Stab.bq zx) (Stab.bq zy) e fun v H3 sm dz => ?_
  cases dz
  refine ⟨c, rfl, ?_⟩
  cases c with
  | false => exact ⟨_, ω2, k.trans (Kp.same sm), W.gr rp.wo sm, .bl false, q2⟩
  | true =>
    have r3 := rp.grow sm
    exact ⟨B, Ex, ρ, ω2, _, r3, q2, fun d ω4 v H4 ⟨w, e4, q4⟩ k4 w4 z4 =>
      h2' (r3.go k4 w4).tr (Stab.bq (Stab.keep (fun _ m => rp.muEx m) ((Kp.same sm).trans k4) zy)) (Stab.bq z4) e4 fun v H5 sm5 dz5 => ⟨w, ω4, k.trans ((Kp.same sm).trans (k4.trans (Kp.same sm5))), W.gr w4 sm5, dz5, q4⟩⟩
theorem dp_ch [Stab R] [Stab S] {T : RQ} [Stab T] {op op' : CmpOp} {g g' : D → D → Option D} (ho : Op2 X W (compareOp op) g) (ho' : Op2 X W (compareOp op') g') (ha : DX R X W a ta) (hb : DX S X W b tb) (hc : DX T X W c tc)
    (hm : lastMarks [op, op'] [b, c] = false := by with_unfolding_all rfl) : DP X W (.Compare a [op, op'] [b, c] pos) (dTst (dCh g g' ta tb tc)) := by
  obtain ⟨r, h1, h2⟩ := ho
  obtain ⟨r', h1', h2'⟩ := ho'
  refine DP.of (pt_chain h1 h1' ha.pe hb.pe hc.pe hm) fun B Ex ρ ω σ H Q rep q => two rep q fun x y dx dy H2 ω2 k rp zx zy ⟨c, e, q2⟩ => ?_
  refine h2 rp.tr (Stab.bq zx) (Stab.bq zy) e fun v H3 sm dz => ?_
  cases dz
  refine ⟨c, rfl, ?_⟩
  cases c with
  | false =>
    obtain ⟨b, e, q2⟩ := q2
    cases e
    exact ⟨false, rfl, ω2, k.trans (Kp.same sm), W.gr rp.wo sm, q2⟩
  | true =>
    have r3 := rp.grow sm
    exact ⟨B, Ex, ρ, ω2, _, r3, q2, fun d ω4 v H4 ⟨w, e4, b, eb, q4⟩ k4 w4 z4 =>
      h2' (r3.go k4 w4).tr (Stab.bq (Stab.keep (fun _ m => rp.muEx m) ((Kp.same sm).trans k4) zy)) (Stab.bq z4) e4 fun v H5 sm5 dz5 => by
        subst eb
        cases dz5
        exact ⟨b, rfl, ω4, k.trans ((Kp.same sm).trans (k4.trans (Kp.same sm5))), W.gr w4 sm5, q4⟩⟩
/-! ## subscripts -/
def ixD : D → D → Option D
  | .lst xs, .int i => atI xs i
  | .tup xs, .int i => atI xs i
  | .str z, .int i => if z.length ≤ sizeLine then (atI z.cps.toList i).map fun c => .str ⟨#[c]⟩ else none
  | _, _ => none
theorem DqL.atI {H : Hp} {Ex : Addr → Prop} {vs : List V} {ds : List D} {i : Int} {d : D} (h : DqL H Ex vs ds) (e : L2.atI ds i = some d) : ∃ v, L2.atI vs i = some v ∧ Dq H Ex v d := by
  unfold L2.atI at e ⊢
  rw [h.length]
  cases q : ixN ds.length i with
  | none => rw [q] at e; cases e
  | some j =>
    rw [q] at e
    exact h.get e
theorem ixS {z : Str} {i : Int} {d : D} (e : (if z.length ≤ sizeLine then (L2.atI z.cps.toList i).map fun c => D.str ⟨#[c]⟩ else none) = some d) :
    z.length ≤ sizeLine ∧ ∃ c, L2.atI z.cps.toList i = some c ∧ d = .str ⟨#[c]⟩ := by
  split at e
  · rename_i hz
    refine ⟨hz, ?_⟩
    cases g : L2.atI z.cps.toList i with
    | none => rw [g] at e; cases e
    | some c =>
      rw [g] at e
      cases e
      exact ⟨c, rfl, rfl⟩
  · cases e
theorem de_ix [Stab R] [Stab S] (ha : DX R X W a ta) (hb : DX S X W b tb) (hs : PlainIx b := by exact fun _ _ => rfl) : DE X W (.Subscript a b pos) (dOp ixD ta tb) := by
  refine DX.of (pe_ix ix_seq ha.pe hb.pe hs) fun B Ex ρ ω σ H Q rep q => two rep q fun x y dx dy H2 ω2 k rp zx zy ⟨z, e, q2⟩ => ?_
  have zx' := Stab.bq zx
  have zy' := Stab.bq zy
  unfold ixD at e
  split at e
  · obtain ⟨p, vs, rfl, h1, h2⟩ := zx'.ofL
    obtain ⟨v, g1, g2⟩ := h2.atI e
    exact .inl ⟨p, vs, _, v, rfl, zy'.ofI, SqL.of h1, g1, z, ω2, k, rp.wo, g2, q2⟩
  · obtain ⟨p, vs, rfl, h1, _, h2⟩ := zx'.ofT
    obtain ⟨v, g1, g2⟩ := h2.atI e
    exact .inr (.inl ⟨p, vs, _, v, rfl, zy'.ofI, SqT.of h1, g1, z, ω2, k, rp.wo, g2, q2⟩)
  · obtain ⟨hz, c, g, e2⟩ := ixS e
    subst e2
    exact .inr (.inr ⟨_, _, c, zx'.ofS, zy'.ofI, hz, g, _, ω2, k, rp.wo, .str _, q2⟩)
  · cases e
/-- d[key], a dict with int and text keys -/
def valD (ds : List (Key × D)) (k : Key) : Option D := (ds.find? fun kd => decide (kd.1 = k)).map (·.2)
def putD (ds : List (Key × D)) (k : Key) (d : D) : List (Key × D) :=
  if (ds.any fun kd => decide (kd.1 = k)) = true then ds.map (fun kd => if kd.1 = k then (kd.1, d) else kd) else ds ++ [(k, d)]
def keyD : D → Option Key
  | .int i => some (.inl i)
  | .str x => some (.inr x)
  | _ => none
theorem DqK.val {H : Hp} {Ex : Addr → Prop} {k : Key} : ∀ {vs : List (Key × V)} {ds : List (Key × D)}, DqK H Ex vs ds → (∀ d, valD ds k = some d → ∃ v, valV vs k = some v ∧ Dq H Ex v d) ∧ (valD ds k = none → valV vs k = none)
  | _, _, .nil => ⟨fun d e => by simp [valD] at e, fun _ => rfl⟩
  | _, _, .cons (k := k') (v := v) (d := d') h t => by
    obtain ⟨h1, h2⟩ := DqK.val (k := k) t
    by_cases e : k' = k
    · refine ⟨fun d q => ?_, fun q => ?_⟩
      · simp [valD, e] at q
        subst q
        exact ⟨v, valV_pos (p := (k', v)) e, h⟩
      · simp [valD, e] at q
    · refine ⟨fun d q => ?_, fun q => ?_⟩
      · rw [valV_neg (p := (k', v)) e]
        exact h1 d (by simpa [valD, e] using q)
      · rw [valV_neg (p := (k', v)) e]
        exact h2 (by simpa [valD, e] using q)
theorem DqK.any {H : Hp} {Ex : Addr → Prop} {k : Key} : ∀ {vs : List (Key × V)} {ds : List (Key × D)}, DqK H Ex vs ds → (vs.any fun kv => decide (kv.1 = k)) = ds.any fun kd => decide (kd.1 = k)
  | _, _, .nil => rfl
  | _, _, .cons _ t => by rw [List.any_cons, List.any_cons, DqK.any t]
theorem DqK.app {H : Hp} {Ex : Addr → Prop} : ∀ {vs ws : List (Key × V)} {ds es : List (Key × D)}, DqK H Ex vs ds → DqK H Ex ws es → DqK H Ex (vs ++ ws) (ds ++ es)
  | _, _, _, _, .nil, s => s
  | _, _, _, _, .cons r t, s => .cons r (DqK.app t s)
theorem DqK.upd {H : Hp} {Ex : Addr → Prop} {k : Key} {v : V} {d : D} (q : Dq H Ex v d) : ∀ {vs : List (Key × V)} {ds : List (Key × D)}, DqK H Ex vs ds →
    DqK H Ex (vs.map fun kv => if kv.1 = k then (kv.1, v) else kv) (ds.map fun kd => if kd.1 = k then (kd.1, d) else kd)
  | _, _, .nil => .nil
  | _, _, .cons (k := k') h t => by
    rw [List.map_cons, List.map_cons]
    by_cases e : k' = k
    · simp only [e, if_true]
      exact .cons q (DqK.upd q t)
    · simp only [e, if_false]
      exact .cons h (DqK.upd q t)
theorem DqK.put {H : Hp} {Ex : Addr → Prop} {k : Key} {v : V} {d : D} {vs : List (Key × V)} {ds : List (Key × D)} (h : DqK H Ex vs ds) (q : Dq H Ex v d) : DqK H Ex (putK vs k v) (putD ds k d) := by
  unfold putK putD
  rw [h.any]
  by_cases e : (ds.any fun kd => decide (kd.1 = k)) = true
  · rw [if_pos e, if_pos e]
    exact h.upd q
  · rw [if_neg e, if_neg e]
    exact h.app (.cons q .nil)
theorem key_ok {H : Hp} {Ex : Addr → Prop} {v : V} {d : D} {k : Key} (h : Bq W H Ex v d) (e : keyD d = some k) : v = kV k := by
  cases d with
  | int i => cases e; exact h.ofI
  | str x => cases e; exact h.ofS
  | non => cases e
  | bl _ => cases e
  | lst _ => cases e
  | tup _ => cases e
  | dic _ => cases e
  | ob _ => cases e
def ixK : D → D → Option D
  | .dic ds, k => (keyD k).bind fun k => valD ds k
  | _, _ => none
theorem de_ixK [Stab R] [Stab S] (hu : X.A.units + 64 < cLine) (ha : DX R X W a ta) (hb : DX S X W b tb) (hs : NoSl b := by exact fun _ _ => rfl) : DE X W (.Subscript a b pos) (dOp ixK ta tb) := by
  refine DX.of (pe_dget (by omega) ha.pe hb.pe hs) fun B Ex ρ ω σ H Q rep q => two rep q fun x y dx dy H2 ω2 k rp zx zy ⟨z, e, q2⟩ => ?_
  have zx' := Stab.bq zx
  have zy' := Stab.bq zy
  unfold ixK at e
  split at e
  · rename_i ds
    cases ek : keyD dy with
    | none => rw [ek] at e; cases e
    | some kk =>
      rw [ek] at e
      obtain ⟨p, vs, rfl, h1, h2⟩ := zx'.ofK
      obtain ⟨v, g1, g2⟩ := h2.val.1 z e
      have ey := key_ok zy' ek
      subst ey
      exact ⟨p, v, rfl, by rw [← g1]; exact DGet.k h1, z, ω2, k, rp.wo, g2, q2⟩
  · cases e
/-! ## slices -/
def cutD (xs : List D) (lo hi : Option Int) : List D := (xs.drop (HT.sIx xs.length 0 lo)).take (HT.sIx xs.length xs.length hi - HT.sIx xs.length 0 lo)
def slD (x : D) (lo hi : Option Int) : Option D := match x with
  | .lst xs => some (.lst (cutD xs lo hi))
  | .tup xs => some (.tup (cutD xs lo hi))
  | .str z => if z.length ≤ sizeLine then some (.str (cutS z lo hi)) else none
  | _ => none
theorem DqL.cutV {H : Hp} {Ex : Addr → Prop} {vs : List V} {ds : List D} (h : DqL H Ex vs ds) (lo hi : Option Int) : DqL H Ex (L2.cutV vs lo hi) (cutD ds lo hi) := by
  unfold L2.cutV cutD
  rw [h.length]
  exact h.cut _ _
/-- a part of a slice -/
def dNo {W : Wo} : Rho → W.Om → (Option Int → W.Om → Prop) → Prop := fun _ ω Q => Q none ω
def dPart {W : Wo} (t : DT W) : Rho → W.Om → (Option Int → W.Om → Prop) → Prop := fun ρ ω Q => t ρ ω fun x ω1 => ∃ i, x = .int i ∧ Q (some i) ω1
structure DO (X : Cx) (W : Wo) (e : Option Expr) (t : Rho → W.Om → (Option Int → W.Om → Prop) → Prop) : Prop where
  ex : ∃ te, PO X e te ∧ ∀ (B : Bs) (Ex : Addr → Prop) (ρ : Rho) (ω : W.Om) (σ : List (Option V)) (H : Hp) (Q : Option Int → W.Om → Prop) (Q' : Option Int → Hp → Prop), Rep W B Ex H σ ρ ω → t ρ ω Q →
    (∀ o ω' H', Q o ω' → Kp W H H' → W.at Ex ω' H' → Q' o H') → te σ H Q'
theorem do_no : DO X W none dNo := ⟨_, po_none, fun B Ex ρ ω σ H Q Q' rep q f => f none ω H q Kp.refl rep.wo⟩
theorem do_some (h : DE X W e ta) : DO X W (some e) (dPart ta) := ⟨_, po_some h.pe, fun B Ex ρ ω σ H Q Q' rep q f => ⟨B, Ex, ρ, ω, _, rep, q, fun d ω' v H' ⟨i, e, q'⟩ k w z => by
  subst e
  cases z
  exact ⟨i, rfl, f _ _ _ q' k w⟩⟩⟩
def dSl {W : Wo} (ta : DT W) (tl th : Rho → W.Om → (Option Int → W.Om → Prop) → Prop) : DT W := fun ρ ω Q => ta ρ ω fun x ω1 => tl ρ ω1 fun l ω2 => th ρ ω2 fun h ω3 => ∃ z, slD x l h = some z ∧ Q z ω3
theorem de_sl [Stab R] {lo hi : Option Expr} {p2 : Pos} {tl th : Rho → W.Om → (Option Int → W.Om → Prop) → Prop} (ha : DX R X W a ta) (hl : DO X W lo tl) (hh : DO X W hi th) :
    DE X W (.Subscript a (.Slice lo hi none p2) pos) (dSl ta tl th) := by
  obtain ⟨tel, l1, l2⟩ := hl
  obtain ⟨teh, g1, g2⟩ := hh
  refine DX.of (pe_slice (sl_list.or (sl_tupA.or sl_str)) ha.pe l1 g1) fun B Ex ρ ω σ H Q rep q => ⟨B, Ex, ρ, ω, _, rep, q, fun d ω1 v H1 q1 k1 w1 z1 => ?_⟩
  refine l2 B Ex ρ ω1 σ H1 _ _ (rep.go k1 w1) q1 fun l ω2 H2 q2 k2 w2 => g2 B Ex ρ ω2 σ H2 _ _ ((rep.go k1 w1).go k2 w2) q2 fun h ω3 H3 q3 k3 w3 => ?_
  obtain ⟨z, e, q3⟩ := q3
  have rp := ((rep.go k1 w1).go k2 w2).go k3 w3
  have zz := Stab.bq (Stab.keep (fun _ m => rep.muEx m) (k2.trans k3) z1)
  have kk := k1.trans (k2.trans k3)
  unfold slD at e
  split at e
  · cases e
    obtain ⟨p, vs, rfl, h1, h2⟩ := zz.ofL
    exact .inl ⟨p, vs, rfl, SqL.of h1, fun p n => ⟨_, ω3, kk.trans (Kp.same (same_upd n)), W.gr w3 (same_upd n), .lst upd_same (rp.new n) ((h2.cutV l h).same (same_upd n)), q3⟩⟩
  · cases e
    obtain ⟨p, vs, rfl, h1, n1, h2⟩ := zz.ofT
    refine .inr (.inl ⟨p, vs, rfl, SqT.of h1, fun hw => ⟨_, ω3, kk, w3, .tup h1 n1 ?_, q3⟩, fun _ p n => ⟨_, ω3, kk.trans (Kp.same (same_upd n)), W.gr w3 (same_upd n), .tup upd_same (rp.new n) ((h2.cutV l h).same (same_upd n)), q3⟩⟩)
    have e1 := h2.cutV l h
    have e2 : L2.cutV vs l h = vs := by
      unfold L2.cutV
      rw [hw.1, hw.2]
      simp
    rw [e2] at e1
    exact e1
  · split at e
    · cases e
      exact .inr (.inr ⟨_, zz.ofS, by assumption, _, ω3, kk, w3, .str _, q3⟩)
    · cases e
  · cases e
/-! ## built-ins -/
/-- f(x), as data -/
def F1 (X : Cx) (W : Wo) (f : Value) (g : D → Option D) : Prop :=
  ∃ r : List V → Hp → VK → Prop, CallR X f r ∧ ∀ {H : Hp} {Ex : Addr → Prop} {v : V} {d z : D} {Q : VK}, (∀ a, Ex a → H a ≠ none) → Bq W H Ex v d → g d = some z →
    (∀ v H', Same H H' → Dq H' Ex v z → Q v H') → r [v] H Q
def dF1 {W : Wo} (g : D → Option D) (ta : DT W) : DT W := fun ρ ω Q => ta ρ ω fun x ω1 => ∃ z, g x = some z ∧ Q z ω1
theorem de_f1 [Stab R] {x : Str} {id : String} {p : Pos} {g : D → Option D} (hf : F1 X W (.builtin id) g) (hg : Gl X x) (hm : X.mg x = none) (hv : bootBuiltins x = some (.builtin id)) (ha : DX R X W e ta)
    (hn : x ≠ "__name__" := by decide) (hdb : (x == ("__debug__" : Str)) = false := by decide) (he : starEach [e] X.env = (false, eval e X.env) :: starEach [] X.env := by rfl) (hpl : (backTo pos (starEach [] X.env)).any (·.1) = false := by rfl) :
    DE X W (.Call (.Name x p) [e] [] pos) (dF1 g ta) := by
  obtain ⟨r, h1, h2⟩ := hf
  exact DX.of (pe_callB h1 hg hm hv (pa_cons ha.pe pa_nil he) hn hdb he hpl) fun B Ex ρ ω σ H Q rep q => ⟨B, Ex, ρ, ω, _, rep, q, fun d ω1 v H1 ⟨z, e, q1⟩ k1 w1 z1 =>
    h2 (rep.go k1 w1).tr (Stab.bq z1) e fun v H2 sm dz => ⟨z, ω1, k1.trans (Kp.same sm), W.gr w1 sm, dz, q1⟩⟩
theorem de_f1T [Stab R] {x : Str} {id : String} {p : Pos} {g : D → Option D} (hf : F1 X W (.type id) g) (hg : Gl X x) (hm : X.mg x = none) (hv : bootBuiltins x = some (.type id)) (ha : DX R X W e ta)
    (hn : x ≠ "__name__" := by decide) (hdb : (x == ("__debug__" : Str)) = false := by decide) (he : starEach [e] X.env = (false, eval e X.env) :: starEach [] X.env := by rfl) (hpl : (backTo pos (starEach [] X.env)).any (·.1) = false := by rfl) :
    DE X W (.Call (.Name x p) [e] [] pos) (dF1 g ta) := by
  obtain ⟨r, h1, h2⟩ := hf
  exact DX.of (pe_callTy h1 hg hm hv (pa_cons ha.pe pa_nil he) hn hdb he hpl) fun B Ex ρ ω σ H Q rep q => ⟨B, Ex, ρ, ω, _, rep, q, fun d ω1 v H1 ⟨z, e, q1⟩ k1 w1 z1 =>
    h2 (rep.go k1 w1).tr (Stab.bq z1) e fun v H2 sm dz => ⟨z, ω1, k1.trans (Kp.same sm), W.gr w1 sm, dz, q1⟩⟩
/-- f(x, y), as data -/
def F2 (X : Cx) (W : Wo) (f : Value) (g : D → D → Option D) : Prop :=
  ∃ r : List V → Hp → VK → Prop, CallR X f r ∧ ∀ {H : Hp} {Ex : Addr → Prop} {v w : V} {d d' z : D} {Q : VK}, (∀ a, Ex a → H a ≠ none) → Bq W H Ex v d → Bq W H Ex w d' → g d d' = some z →
    (∀ v H', Same H H' → Dq H' Ex v z → Q v H') → r [v, w] H Q
theorem de_f2 [Stab R] [Stab S] {x : Str} {id : String} {p : Pos} {g : D → D → Option D} (hf : F2 X W (.builtin id) g) (hg : Gl X x) (hm : X.mg x = none) (hv : bootBuiltins x = some (.builtin id)) (ha : DX R X W a ta) (hb : DX S X W b tb)
    (hn : x ≠ "__name__" := by decide) (hdb : (x == ("__debug__" : Str)) = false := by decide) (he : starEach [a, b] X.env = (false, eval a X.env) :: starEach [b] X.env := by rfl) (he2 : starEach [b] X.env = (false, eval b X.env) :: starEach [] X.env := by rfl)
    (hpl : (backTo pos (starEach [b] X.env)).any (·.1) = false := by rfl) :
    DE X W (.Call (.Name x p) [a, b] [] pos) (dOp g ta tb) := by
  obtain ⟨r, h1, h2⟩ := hf
  refine DX.of (pe_callB h1 hg hm hv (pa_cons ha.pe (pa_cons hb.pe pa_nil he2) he) hn hdb he hpl) fun B Ex ρ ω σ H Q rep q => two rep q fun x y dx dy H2 ω2 k rp zx zy ⟨z, e, q2⟩ => ?_
  exact h2 rp.tr (Stab.bq zx) (Stab.bq zy) e fun v H' sm dz => ⟨z, ω2, k.trans (Kp.same sm), W.gr rp.wo sm, dz, q2⟩
end
/-- isinstance(x, T), T a built-in class -/
def tyn : D → String
  | .non => "NoneType"
  | .bl _ => "bool"
  | .int _ => "int"
  | .str _ => "str"
  | .lst _ => "list"
  | .tup _ => "tuple"
  | .dic _ => "dict"
  | .ob _ => ""
def isIT (a T : String) : Bool := a == T || (a == "bool" && T == "int")
def isI (T : String) (d : D) : Bool := isIT (tyn d) T
def isObD : D → Bool
  | .ob _ => true
  | _ => false
/-- the classes that are asked for -/
def askT (T : String) : Bool := T == "int" || T == "bool" || T == "str" || T == "list" || T == "tuple" || T == "dict"
section
variable {R S : RQ} {X : Cx} {W : Wo} {a b c e : Expr} {pos : Pos} {ta tb tc : DT W}
def dIsi {W : Wo} (T : String) (ta : DT W) : DT W := fun ρ ω Q => ta ρ ω fun x ω1 => isObD x = false ∧ Q (.bl (isI T x)) ω1
theorem isi_kit {K : PySem.W.Frag} {H : Hp} {Ex : Addr → Prop} {v : V} {d : D} {T : String} (hT : askT T = true) (h : Bq W H Ex v d) (n : isObD d = false) : ∃ t, TyX K H v t ∧ PySem.W.kitOne K t (.type T) = some (isI T d) := by
  have cases6 : T = "int" ∨ T = "bool" ∨ T = "str" ∨ T = "list" ∨ T = "tuple" ∨ T = "dict" := by
    simpa [askT, Bool.or_eq_true, or_assoc] using hT
  have go : ∀ a ∈ ["NoneType", "bool", "int", "str", "list", "tuple", "dict"], PySem.W.kitOne K (.type a) (.type T) = some (isIT a T) := by
    intro a ha
    refine kit_ty ?_
    simp only [List.mem_cons, List.not_mem_nil, or_false] at ha
    rcases cases6 with rfl | rfl | rfl | rfl | rfl | rfl <;> rcases ha with rfl | rfl | rfl | rfl | rfl | rfl | rfl <;> decide +kernel
  cases d with
  | ob a => cases n
  | non => rw [h.ofN]; exact ⟨_, .base .non, go _ (by decide)⟩
  | bl x => rw [h.ofB]; exact ⟨_, .base (.bl x), go _ (by decide)⟩
  | int x => rw [h.ofI]; exact ⟨_, .base (.int x), go _ (by decide)⟩
  | str x => rw [h.ofS]; exact ⟨_, .base (.str x), go _ (by decide)⟩
  | lst xs =>
    obtain ⟨p, vs, rfl, h1, _⟩ := h.ofL
    exact ⟨_, .base (.lst h1), go _ (by decide)⟩
  | tup xs =>
    obtain ⟨p, vs, rfl, h1, _⟩ := h.ofT
    exact ⟨_, .base (.tup h1), go _ (by decide)⟩
  | dic xs =>
    obtain ⟨p, vs, rfl, h1, _⟩ := h.ofK
    exact ⟨_, .base (.dK h1), go _ (by decide)⟩
theorem de_isi [Stab R] {T : String} {x : Str} {p pt : Pos} (hT : askT T = true) (hg : Gl X "isinstance") (hm : X.mg "isinstance" = none) (ha : DX R X W a ta) (hgx : Gl X x) (hmx : X.mg x = none) (hv : bootBuiltins x = some (.type T)) (hn : x ≠ "__name__" := by decide)
    (hdb : (x == ("__debug__" : Str)) = false := by decide) (he : starEach [a, .Name x pt] X.env = (false, eval a X.env) :: starEach [.Name x pt] X.env := by rfl) (he2 : starEach [.Name x pt] X.env = (false, eval (.Name x pt) X.env) :: starEach [] X.env := by rfl)
    (hpl : (backTo pos (starEach [.Name x pt] X.env)).any (·.1) = false := by rfl) :
    DE X W (.Call (.Name "isinstance" p) [a, .Name x pt] [] pos) (dIsi T ta) := by
  refine DX.of (pe_callB call_isi hg hm (by decide +kernel) (pa_cons ha.pe (pa_cons (pe_bltn (v := .ty T) hgx hmx hv rfl hn hdb) pa_nil he2) he) (by decide) (by decide) he hpl) fun B Ex ρ ω σ H Q rep q => ⟨B, Ex, ρ, ω, _, rep, q, fun d ω1 v H1 ⟨n, q1⟩ k1 w1 z1 => ?_⟩
  obtain ⟨t, h1, h2⟩ := isi_kit (K := X.K) hT (Stab.bq z1) n
  exact ⟨v, .ty T, t, .type T, isI T d, rfl, .ty T, h1, h2, _, ω1, k1, w1, .bl _, q1⟩
end
/-! ## single built-ins -/
def lenD : D → Option D
  | .lst xs => some (.int xs.length)
  | .tup xs => some (.int xs.length)
  | .str z => if z.length ≤ sizeLine then some (.int z.length) else none
  | _ => none
def absD : D → Option D
  | .int i => some (.int (if i < 0 then -i else i))
  | _ => none
def boolsD : List D → Option (List Bool)
  | [] => some []
  | .bl b :: ds => (boolsD ds).map fun r => b :: r
  | _ => none
def allD : D → Option D
  | .lst xs => (boolsD xs).map fun bs => .bl (bs.all id)
  | _ => none
def anyD : D → Option D
  | .lst xs => (boolsD xs).map fun bs => .bl (bs.any id)
  | _ => none
def tupD : D → Option D
  | .lst xs => some (.tup xs)
  | .tup xs => some (.tup xs)
  | _ => none
def lstD : D → Option D
  | .lst xs => some (.lst xs)
  | .tup xs => some (.lst xs)
  | _ => none
/-- what repr wants -/
def shwOk (d : D) : Bool := d.pl && d.py.showable && decide (d.py.shown.length ≤ sizeLine) && decide (d.py.depth ≤ 60)
def reprD (d : D) : Option D := if shwOk d = true then some (.str d.py.shown) else none
theorem bools_ok {H : Hp} {Ex : Addr → Prop} : ∀ {vs : List V} {ds : List D} {bs : List Bool}, DqL H Ex vs ds → boolsD ds = some bs → vs = bs.map V.bl
  | _, _, _, .nil, e => by cases e; rfl
  | _, _, bs, .cons (.bl b) (ds := ds) t, e => by
    have e' : (boolsD ds).map (fun r => b :: r) = some bs := e
    cases q : boolsD ds with
    | none => rw [q] at e'; cases e'
    | some r =>
      rw [q] at e'
      cases e'
      rw [bools_ok t q]
      rfl
  | _, _, _, .cons .non t, e => nomatch e
  | _, _, _, .cons (.int _) t, e => nomatch e
  | _, _, _, .cons (.str _) t, e => nomatch e
  | _, _, _, .cons (.ob _) t, e => nomatch e
  | _, _, _, .cons (.lst _ _ _) t, e => nomatch e
  | _, _, _, .cons (.tup _ _ _) t, e => nomatch e
  | _, _, _, .cons (.dic _ _ _) t, e => nomatch e
section
variable {X : Cx} {W : Wo}
theorem f_len : F1 X W (.builtin "len") lenD := by
  refine ⟨_, call_len, ?_⟩
  intro H Ex v d z Q tr h e k
  unfold lenD at e
  split at e
  · cases e
    obtain ⟨p, vs, rfl, h1, h2⟩ := h.ofL
    exact ⟨_, _, rfl, .inl ⟨vs, SqL.of h1, rfl⟩, k _ _ (Same.refl H) (by rw [h2.length]; exact .int _)⟩
  · cases e
    obtain ⟨p, vs, rfl, h1, _, h2⟩ := h.ofT
    exact ⟨_, _, rfl, .inr ⟨vs, SqT.of h1, rfl⟩, k _ _ (Same.refl H) (by rw [h2.length]; exact .int _)⟩
  · split at e
    · cases e
      have ev := h.ofS
      subst ev
      exact ⟨_, _, rfl, ⟨by assumption, rfl⟩, k _ _ (Same.refl H) (.int _)⟩
    · cases e
  · cases e
theorem f_abs : F1 X W (.builtin "abs") absD := by
  refine ⟨_, call_abs, ?_⟩
  intro H Ex v d z Q tr h e k
  unfold absD at e
  split at e
  · cases e
    have ev := h.ofI
    subst ev
    exact ⟨_, rfl, k _ _ (Same.refl H) (.int _)⟩
  · cases e
theorem f_all (hc : X.calm = true) : F1 X W (.builtin "all") allD := by
  refine ⟨_, cr_all hc, ?_⟩
  intro H Ex v d z Q tr h e k
  unfold allD at e
  split at e
  · rename_i xs
    cases q : boolsD xs with
    | none => rw [q] at e; cases e
    | some bs =>
      rw [q] at e
      cases e
      obtain ⟨p, vs, rfl, h1, h2⟩ := h.ofL
      have ev := bools_ok h2 q
      subst ev
      exact ⟨p, bs, rfl, SqL.of h1, k _ _ (Same.refl H) (.bl _)⟩
  · cases e
theorem f_any (hc : X.calm = true) : F1 X W (.builtin "any") anyD := by
  refine ⟨_, cr_any hc, ?_⟩
  intro H Ex v d z Q tr h e k
  unfold anyD at e
  split at e
  · rename_i xs
    cases q : boolsD xs with
    | none => rw [q] at e; cases e
    | some bs =>
      rw [q] at e
      cases e
      obtain ⟨p, vs, rfl, h1, h2⟩ := h.ofL
      have ev := bools_ok h2 q
      subst ev
      exact ⟨p, bs, rfl, SqL.of h1, k _ _ (Same.refl H) (.bl _)⟩
  · cases e
theorem f_tuple : F1 X W (.type "tuple") tupD := by
  refine ⟨_, call_tuple_of, ?_⟩
  intro H Ex v d z Q tr h e k
  unfold tupD at e
  split at e
  · cases e
    obtain ⟨p, vs, rfl, h1, h2⟩ := h.ofL
    exact ⟨p, vs, rfl, .inl ⟨SqL.of h1, fun l n => k _ _ (same_upd n) (.tup upd_same (fun m => tr l m n) (h2.same (same_upd n)))⟩⟩
  · cases e
    obtain ⟨p, vs, rfl, h1, n1, h2⟩ := h.ofT
    exact ⟨p, vs, rfl, .inr ⟨SqT.of h1, k _ _ (Same.refl H) (.tup h1 n1 h2)⟩⟩
  · cases e
theorem f_list : F1 X W (.type "list") lstD := by
  refine ⟨_, call_list_of, ?_⟩
  intro H Ex v d z Q tr h e k
  unfold lstD at e
  split at e
  · cases e
    obtain ⟨p, vs, rfl, h1, h2⟩ := h.ofL
    exact ⟨p, vs, rfl, .inl (SqL.of h1), fun l n => k _ _ (same_upd n) (.lst upd_same (fun m => tr l m n) (h2.same (same_upd n)))⟩
  · cases e
    obtain ⟨p, vs, rfl, h1, _, h2⟩ := h.ofT
    exact ⟨p, vs, rfl, .inr (SqT.of h1), fun l n => k _ _ (same_upd n) (.lst upd_same (fun m => tr l m n) (h2.same (same_upd n)))⟩
  · cases e
/-- repr of data -/
def rRepr (W : Wo) : List V → Hp → VK → Prop := fun vs H Q => ∃ Ex v d, vs = [v] ∧ Bq W H Ex v d ∧ shwOk d = true ∧ Q (.str d.py.shown) H
theorem call_reprD (hb : BaseS X.base) (g : Gd X.A) (hu : X.A.units + 64 < cLine) : CallR X (.builtin "repr") (rRepr W) := by
  intro pins s σ H vs us Q I r h
  obtain ⟨Ex, v, d, rfl, hq, hs, q⟩ := h
  obtain ⟨u, rfl, ru⟩ := vals1 r
  unfold shwOk at hs
  simp only [Bool.and_eq_true, decide_eq_true_eq] at hs
  obtain ⟨⟨⟨h1, h2⟩, h3⟩, h4⟩ := hs
  cases d with
  | ob a => exact Bool.noConfusion h1
  | non =>
    have e := hq.ofN; subst e
    cases ru
    exact PySem.P.repr_of_none ⟨.str _, H, I.tok _, ⟨_, rfl⟩, q⟩
  | bl b =>
    have e := hq.ofB; subst e
    cases ru
    exact PySem.P.repr_of_bool ⟨.str _, H, I.tok _, ⟨_, rfl⟩, q⟩
  | int i =>
    have e := hq.ofI; subst e
    obtain ⟨t, rfl⟩ := ru
    exact PySem.P.repr_of_int (of_decide_eq_true h2) ⟨.str _, H, I.tok _, ⟨_, rfl⟩, q⟩
  | str x =>
    have e := hq.ofS; subst e
    obtain ⟨t, rfl⟩ := ru
    exact PySem.P.repr_of_str ⟨.str _, H, I.tok _, ⟨_, rfl⟩, q⟩ h3
  | lst xs =>
    obtain ⟨as, rd, nn⟩ := hq.reads hb I h1 ru
    obtain ⟨p, vs, rfl, _, _⟩ := hq.ofL
    cases ru
    exact repr_of_reads' rd h2 (fun _ => nn) g (by omega) (fun _ _ e => e) (fun h' u tk hk => ⟨.str _, H, I.kept hk, ⟨u, rfl⟩, q⟩) h3
  | tup xs =>
    obtain ⟨as, rd, nn⟩ := hq.reads hb I h1 ru
    obtain ⟨p, vs, rfl, _, _, _⟩ := hq.ofT
    cases ru
    exact repr_of_reads' rd h2 (fun _ => nn) g (by omega) (fun _ _ e => e) (fun h' u tk hk => ⟨.str _, H, I.kept hk, ⟨u, rfl⟩, q⟩) h3
  | dic xs =>
    obtain ⟨as, rd, nn⟩ := hq.reads hb I h1 ru
    obtain ⟨p, vs, rfl, _, _⟩ := hq.ofK
    cases ru
    exact repr_of_reads' rd h2 (fun _ => nn) g (by omega) (fun _ _ e => e) (fun h' u tk hk => ⟨.str _, H, I.kept hk, ⟨u, rfl⟩, q⟩) h3
theorem f_repr (hb : BaseS X.base) (g : Gd X.A) (hu : X.A.units + 64 < cLine) : F1 X W (.builtin "repr") reprD := by
  refine ⟨_, call_reprD (W := W) hb g hu, ?_⟩
  intro H Ex v d z Q tr h e k
  unfold reprD at e
  split at e
  · cases e
    exact ⟨Ex, v, d, rfl, h, by assumption, k _ _ (Same.refl H) (.str _)⟩
  · cases e
end
end Tk

namespace Tk
open PySem PySem.Spec PyProof.Rows L2

/-! ## slots that change -/
section
variable {W : Wo} {B : Bs} {Ex Ex' Ex2 : Addr → Prop} {H H' H2 : Hp} {σ : List (Option V)} {ρ : Rho} {ω : W.Om} {i : Nat}
theorem get_set_ne {α : Type} {l : List α} {i j : Nat} {x : α} (h : j ≠ i) : (l.set i x)[j]? = l[j]? := List.getElem?_set_ne (Ne.symm h)
theorem of_set {α : Type} {l : List (Option α)} {i j : Nat} {x : Option α} {y : α} (h : (l.set i x)[j]? = some (some y)) : (j = i ∧ x = some y) ∨ (j ≠ i ∧ l[j]? = some (some y)) := by
  by_cases e : j = i
  · subst e
    by_cases hl : j < l.length
    · rw [List.getElem?_set_self hl] at h
      exact .inl ⟨rfl, Option.some.inj h⟩
    · rw [List.getElem?_eq_none (by simpa using hl)] at h
      cases h
  · rw [get_set_ne e] at h
    exact .inr ⟨e, h⟩
theorem lt_of_set {α : Type} {l : List (Option α)} {i : Nat} {x : Option α} {y : α} (h : (l.set i x)[i]? = some (some y)) : i < l.length := by
  by_cases hl : i < l.length
  · exact hl
  · rw [List.getElem?_eq_none (by simpa using hl)] at h
    cases h
/-- a slot gets data -/
theorem Rep.set (R : Rep W B Ex H σ ρ ω) {v : V} {d : D} (q : Dq H Ex v d) (i : Nat) : Rep W B Ex H (σ.set i (some v)) (ρ.set i (some (.d d))) ω where
  wo := R.wo
  mu := R.mu
  sub := R.sub
  out := R.out
  tr0 := R.tr0
  tr := R.tr
  kp := R.kp
  len := by rw [List.length_set, List.length_set]; exact R.len
  sl := fun j z e => by
    rcases of_set e with ⟨h1, h2⟩ | ⟨h1, h2⟩
    · subst h1
      cases h2
      have hl : j < σ.length := by rw [R.len]; exact lt_of_set e
      exact ⟨some v, List.getElem?_set_self hl, q⟩
    · obtain ⟨o, g1, g2⟩ := R.sl j z h2
      exact ⟨o, by rw [get_set_ne h1]; exact g1, g2⟩
  dis := fun j k z y a e1 e2 o1 o2 s1 s2 => by
    rcases of_set e1 with ⟨h1, h2⟩ | ⟨h1, h2⟩
    · cases h2; exact Bool.noConfusion o1
    · rcases of_set e2 with ⟨g1, g2⟩ | ⟨g1, g2⟩
      · cases g2; exact Bool.noConfusion o2
      · rw [get_set_ne h1] at s1
        rw [get_set_ne g1] at s2
        exact R.dis j k z y a h2 g2 o1 o2 s1 s2
  ofr := fun j z a e o s => by
    rcases of_set e with ⟨h1, h2⟩ | ⟨h1, h2⟩
    · cases h2; exact Bool.noConfusion o
    · rw [get_set_ne h1] at s
      exact R.ofr j z a h2 o s
/-- a slot is forgotten -/
theorem Rep.clr (R : Rep W B Ex H σ ρ ω) (i : Nat) (o : Option V) : Rep W B Ex H (σ.set i o) (ρ.set i none) ω where
  wo := R.wo
  mu := R.mu
  sub := R.sub
  out := R.out
  tr0 := R.tr0
  tr := R.tr
  kp := R.kp
  len := by rw [List.length_set, List.length_set]; exact R.len
  sl := fun j z e => by
    rcases of_set e with ⟨h1, h2⟩ | ⟨h1, h2⟩
    · cases h2
    · obtain ⟨o, g1, g2⟩ := R.sl j z h2
      exact ⟨o, by rw [get_set_ne h1]; exact g1, g2⟩
  dis := fun j k z y a e1 e2 o1 o2 s1 s2 => by
    rcases of_set e1 with ⟨h1, h2⟩ | ⟨h1, h2⟩
    · cases h2
    · rcases of_set e2 with ⟨g1, g2⟩ | ⟨g1, g2⟩
      · cases g2
      · rw [get_set_ne h1] at s1
        rw [get_set_ne g1] at s2
        exact R.dis j k z y a h2 g2 o1 o2 s1 s2
  ofr := fun j z a e o s => by
    rcases of_set e with ⟨h1, h2⟩ | ⟨h1, h2⟩
    · cases h2
    · rw [get_set_ne h1] at s
      exact R.ofr j z a h2 o s
/-- a slot is forgotten, as data alone -/
theorem Rep.clr' (R : Rep W B Ex H σ ρ ω) (i : Nat) : Rep W B Ex H σ (ρ.set i none) ω where
  wo := R.wo
  mu := R.mu
  sub := R.sub
  out := R.out
  tr0 := R.tr0
  tr := R.tr
  kp := R.kp
  len := by rw [List.length_set]; exact R.len
  sl := fun j z e => by
    rcases of_set e with ⟨h1, h2⟩ | ⟨h1, h2⟩
    · cases h2
    · exact R.sl j z h2
  dis := fun j k z y a e1 e2 o1 o2 s1 s2 => by
    rcases of_set e1 with ⟨h1, h2⟩ | ⟨h1, h2⟩
    · cases h2
    · rcases of_set e2 with ⟨g1, g2⟩ | ⟨g1, g2⟩
      · cases g2
      · exact R.dis j k z y a h2 g2 o1 o2 s1 s2
  ofr := fun j z a e o s => by
    rcases of_set e with ⟨h1, h2⟩ | ⟨h1, h2⟩
    · cases h2
    · exact R.ofr j z a h2 o s
theorem Rep.out0 (R : Rep W B Ex H σ ρ ω) {p : Addr} (n : H p = none) : B.H0 p = none := by
  cases e : B.H0 p with
  | none => rfl
  | some o =>
    by_cases m : W.Mu p
    · exact absurd n (W.tk R.wo m)
    · have := R.kp p o e m
      rw [n] at this
      cases this
/-- a new object that is the def's own -/
theorem Rep.alloc (R : Rep W B Ex H σ ρ ω) {p : Addr} (n : H p = none) (o : HO) : Rep W B (fun b => Ex b ∨ b = p) (upd H p o) σ ρ ω where
  wo := W.gr (W.le R.wo fun b h => by
    rcases h with h | h
    · exact .inl h
    · subst h; exact .inr n) (same_upd n)
  mu := R.mu
  sub := fun b h => .inl (R.sub b h)
  out := fun b h => by
    rcases h with h | h
    · exact R.out b h
    · subst h; exact .inr (R.out0 n)
  tr0 := R.tr0
  tr := fun b h => by
    rcases h with h | h
    · cases e : H b with
      | none => exact absurd e (R.tr b h)
      | some u => rw [same_upd n b u e]; exact fun z => nomatch z
    · subst h; rw [upd_same]; exact fun z => nomatch z
  kp := R.kp.trans (Kp.same (same_upd n))
  len := R.len
  sl := fun j z e => by
    obtain ⟨u, g1, g2⟩ := R.sl j z e
    refine ⟨u, g1, g2.to (fun _ h => .inl h) (fun a w _ q _ => same_upd n a w q) fun a w q x => ⟨same_upd n a w q, fun m => ?_⟩⟩
    rcases m with m | m
    · exact x m
    · subst m; rw [n] at q; cases q
  dis := R.dis
  ofr := R.ofr
/-- an object that is shut out is changed, no slot has it -/
theorem Rep.poke (R : Rep W B Ex H σ ρ ω) {p : Addr} (hp : Ex p) (h0 : B.H0 p = none) (o : HO)
    (own : ∀ (j : Nat) (z : Sl), ρ[j]? = some (some z) → isOwn z = true → σ[j]? = some (some (.ref p)) → False) : Rep W B Ex (upd H p o) σ ρ ω where
  wo := W.grow R.wo fun b u e m => by
    have : b ≠ p := fun z => by subst z; exact m ⟨hp, R.notMu h0⟩
    rw [upd_ne this]; exact e
  mu := R.mu
  sub := R.sub
  out := R.out
  tr0 := R.tr0
  tr := fun b h => by
    by_cases e : b = p
    · subst e; rw [upd_same]; exact fun z => nomatch z
    · rw [upd_ne e]; exact R.tr b h
  kp := fun b u e m => by
    have : b ≠ p := fun z => by subst z; rw [h0] at e; cases e
    rw [upd_ne this]; exact R.kp b u e m
  len := R.len
  sl := fun j z e => by
    obtain ⟨u, g1, g2⟩ := R.sl j z e
    have ne : ∀ a : Addr, ¬ Ex a → a ≠ p := fun a x z => by subst z; exact x hp
    refine ⟨u, g1, g2.to (fun _ h => h) (fun a w e1 q e3 => ?_) fun a w q x => ⟨by rw [upd_ne (ne a x)]; exact q, x⟩⟩
    have : a ≠ p := fun y => by
      subst y
      subst e1
      exact own j z e e3 g1
    rw [upd_ne this]; exact q
  dis := R.dis
  ofr := R.ofr
/-- no slot has what is new -/
theorem Rep.noOwn (R : Rep W B Ex H σ ρ ω) {p : Addr} (n : H p = none) (j : Nat) (z : Sl) (e : ρ[j]? = some (some z)) (o : isOwn z = true) (s : σ[j]? = some (some (.ref p))) : False := by
  obtain ⟨u, g1, g2⟩ := R.sl j z e
  rw [s] at g1
  cases g1
  cases z with
  | d d => cases o
  | own ds =>
    obtain ⟨a, e1, _, vs, h1, _⟩ := g2
    cases e1
    rw [n] at h1; cases h1
  | odc ds =>
    obtain ⟨a, e1, _, vs, h1, _⟩ := g2
    cases e1
    rw [n] at h1; cases h1
end

/-! ## what a statement may do to the heap -/
structure Stp (Ex : Addr → Prop) (H : Hp) (Ex' : Addr → Prop) (H' : Hp) : Prop where
  out : ∀ a, Ex' a → Ex a ∨ H a = none
  kp : ∀ b o, H b = some o → ¬ Ex b → H' b = some o
  tr : ∀ a, H a ≠ none → H' a ≠ none
theorem Stp.refl {Ex : Addr → Prop} {H : Hp} : Stp Ex H Ex H := ⟨fun _ h => .inl h, fun _ _ h _ => h, fun _ h => h⟩
theorem Stp.trans {Ex Ex1 Ex2 : Addr → Prop} {H H1 H2 : Hp} (a : Stp Ex H Ex1 H1) (b : Stp Ex1 H1 Ex2 H2) : Stp Ex H Ex2 H2 where
  out := fun c h => by
    rcases b.out c h with q | q
    · exact a.out c q
    · cases e : H c with
      | none => exact .inr rfl
      | some o => exact absurd q (a.tr c (by rw [e]; exact fun z => nomatch z))
  kp := fun c o h n => b.kp c o (a.kp c o h n) fun m => by
    rcases a.out c m with q | q
    · exact n q
    · rw [q] at h; cases h
  tr := fun c h => b.tr c (a.tr c h)
theorem Stp.of {W : Wo} {Ex : Addr → Prop} {H H' : Hp} (k : Kp W H H') (m : ∀ a, W.Mu a → Ex a) (t : ∀ a, Ex a → H' a ≠ none) : Stp Ex H Ex H' where
  out := fun _ h => .inl h
  kp := fun b o e n => k b o e fun z => n (m b z)
  tr := fun a h => by
    by_cases x : Ex a
    · exact t a x
    · cases e : H a with
      | none => exact absurd e h
      | some o => rw [k a o e fun z => x (m a z)]; exact fun z => nomatch z
theorem Stp.dq {Ex Ex' : Addr → Prop} {H H' : Hp} (s : Stp Ex H Ex' H') {v : V} {d : D} (h : Dq H Ex v d) : Dq H' Ex' v d :=
  h.to fun a o e n => ⟨s.kp a o e n, fun m => by
    rcases s.out a m with q | q
    · exact n q
    · rw [q] at e; cases e⟩
theorem Stp.dqL {Ex Ex' : Addr → Prop} {H H' : Hp} (s : Stp Ex H Ex' H') {v : List V} {d : List D} (h : DqL H Ex v d) : DqL H' Ex' v d :=
  h.to fun a o e n => ⟨s.kp a o e n, fun m => by
    rcases s.out a m with q | q
    · exact n q
    · rw [q] at e; cases e⟩
theorem Stp.dqK {Ex Ex' : Addr → Prop} {H H' : Hp} (s : Stp Ex H Ex' H') {v : List (Key × V)} {d : List (Key × D)} (h : DqK H Ex v d) : DqK H' Ex' v d :=
  h.to fun a o e n => ⟨s.kp a o e n, fun m => by
    rcases s.out a m with q | q
    · exact n q
    · rw [q] at e; cases e⟩

/-! ## statements -/
structure DEnds (W : Wo) where
  nx : Rho → W.Om → Prop
  rt : D → W.Om → Prop
  bk : Rho → W.Om → Prop := fun _ _ => False
  ct : Rho → W.Om → Prop := fun _ _ => False
/-- a state behind -/
def Beh (W : Wo) (B : Bs) (Ex : Addr → Prop) (H : Hp) (q : Rho → W.Om → Prop) (σ' : List (Option V)) (H' : Hp) : Prop :=
  ∃ Ex' ρ' ω', Stp Ex H Ex' H' ∧ Rep W B Ex' H' σ' ρ' ω' ∧ q ρ' ω'
def Fin (W : Wo) (B : Bs) (q : D → W.Om → Prop) (v : V) (H' : Hp) : Prop :=
  ∃ d ω', Kp W B.H0 H' ∧ W.at B.Ex0 ω' H' ∧ Dq H' B.Ex0 v d ∧ q d ω'
def ends (W : Wo) (B : Bs) (Ex : Addr → Prop) (H : Hp) (D0 : DEnds W) : Ends where
  nx := Beh W B Ex H D0.nx
  rt := Fin W B D0.rt
  bk := Beh W B Ex H D0.bk
  ct := Beh W B Ex H D0.ct
abbrev DTS (W : Wo) := DEnds W → Rho → W.Om → Prop
structure DS (X : Cx) (W : Wo) (st : Stmt) (t : DTS W) : Prop where
  run : ∀ (pins : List (Addr × Obj)) (s : Shared) (σ : List (Option V)) (H : Hp) (B : Bs) (Ex : Addr → Prop) (ρ : Rho) (ω : W.Om) (D0 : DEnds W),
    Inv X pins σ H s → Rep W B Ex H σ ρ ω → t D0 ρ ω → wpAny (model X.prog X.w) X.A (exec st X.env) (SP X pins (ends W B Ex H D0)) X.xe s
structure DSs (X : Cx) (W : Wo) (st : List Stmt) (t : DTS W) : Prop where
  run : ∀ (pins : List (Addr × Obj)) (s : Shared) (σ : List (Option V)) (H : Hp) (B : Bs) (Ex : Addr → Prop) (ρ : Rho) (ω : W.Om) (D0 : DEnds W),
    Inv X pins σ H s → Rep W B Ex H σ ρ ω → t D0 ρ ω → wpAny (model X.prog X.w) X.A (execs st X.env) (SP X pins (ends W B Ex H D0)) X.xe s
structure ELe (E F : Ends) : Prop where
  nx : ∀ σ H, E.nx σ H → F.nx σ H
  rt : ∀ v H, E.rt v H → F.rt v H
  bk : ∀ σ H, E.bk σ H → F.bk σ H
  ct : ∀ σ H, E.ct σ H → F.ct σ H
theorem ELe.refl {E : Ends} : ELe E E := ⟨fun _ _ h => h, fun _ _ h => h, fun _ _ h => h, fun _ _ h => h⟩
theorem ELe.trans {E F G : Ends} (a : ELe E F) (b : ELe F G) : ELe E G :=
  ⟨fun _ _ h => b.nx _ _ (a.nx _ _ h), fun _ _ h => b.rt _ _ (a.rt _ _ h), fun _ _ h => b.bk _ _ (a.bk _ _ h), fun _ _ h => b.ct _ _ (a.ct _ _ h)⟩
theorem SP.le {X : Cx} {pins : List (Addr × Obj)} {E F : Ends} (l : ELe E F) {f : Flow} {s' : Shared} (h : SP X pins E f s') : SP X pins F f s' := by
  cases f with
  | next => obtain ⟨σ, H, I, q⟩ := h; exact ⟨σ, H, I, l.nx _ _ q⟩
  | brk => obtain ⟨σ, H, I, q⟩ := h; exact ⟨σ, H, I, l.bk _ _ q⟩
  | cont => obtain ⟨σ, H, I, q⟩ := h; exact ⟨σ, H, I, l.ct _ _ q⟩
  | ret u => obtain ⟨v, σ, H, I, r, q⟩ := h; exact ⟨v, σ, H, I, r, l.rt _ _ q⟩
theorem ends_le {W : Wo} {B : Bs} {Ex Ex' : Addr → Prop} {H H' : Hp} {D0 : DEnds W} (s : Stp Ex H Ex' H') : ELe (ends W B Ex' H' D0) (ends W B Ex H D0) where
  nx := fun _ _ ⟨E, r, o, a, b, c⟩ => ⟨E, r, o, s.trans a, b, c⟩
  rt := fun _ _ h => h
  bk := fun _ _ ⟨E, r, o, a, b, c⟩ => ⟨E, r, o, s.trans a, b, c⟩
  ct := fun _ _ ⟨E, r, o, a, b, c⟩ => ⟨E, r, o, s.trans a, b, c⟩
def tS (W : Wo) (t : DTS W) : TS := fun D σ H => ∃ B Ex ρ ω D0, Rep W B Ex H σ ρ ω ∧ t D0 ρ ω ∧ ELe (ends W B Ex H D0) D
section
variable {X : Cx} {W : Wo} {st : Stmt} {sts : List Stmt} {t u : DTS W} {e : Expr} {te : DT W} {pos : Pos}
theorem DS.ps (h : DS X W st t) : PS X st (tS W t) := ⟨fun pins s σ H D I ⟨B, Ex, ρ, ω, D0, rep, q, l⟩ =>
  thn (h.run pins s σ H B Ex ρ ω D0 I rep q) fun f s' z => SP.le l z⟩
theorem DSs.pss (h : DSs X W sts t) : PSs X sts (tS W t) := ⟨fun pins s σ H D I ⟨B, Ex, ρ, ω, D0, rep, q, l⟩ =>
  thn (h.run pins s σ H B Ex ρ ω D0 I rep q) fun f s' z => SP.le l z⟩
theorem DS.of {ts : TS} (h : PS X st ts) (f : ∀ (B : Bs) (Ex : Addr → Prop) (ρ : Rho) (ω : W.Om) (σ : List (Option V)) (H : Hp) (D0 : DEnds W), Rep W B Ex H σ ρ ω → t D0 ρ ω → ts (ends W B Ex H D0) σ H) : DS X W st t :=
  ⟨fun pins s σ H B Ex ρ ω D0 I rep q => h.run pins s σ H _ I (f B Ex ρ ω σ H D0 rep q)⟩
theorem DSs.of {ts : TS} (h : PSs X sts ts) (f : ∀ (B : Bs) (Ex : Addr → Prop) (ρ : Rho) (ω : W.Om) (σ : List (Option V)) (H : Hp) (D0 : DEnds W), Rep W B Ex H σ ρ ω → t D0 ρ ω → ts (ends W B Ex H D0) σ H) : DSs X W sts t :=
  ⟨fun pins s σ H B Ex ρ ω D0 I rep q => h.run pins s σ H _ I (f B Ex ρ ω σ H D0 rep q)⟩
def dNext {W : Wo} : DTS W := fun D0 ρ ω => D0.nx ρ ω
def dSeq {W : Wo} (t u : DTS W) : DTS W := fun D0 ρ ω => t { D0 with nx := u D0 } ρ ω
theorem beh_now {B : Bs} {Ex : Addr → Prop} {H : Hp} {σ : List (Option V)} {ρ : Rho} {ω : W.Om} {q : Rho → W.Om → Prop} (rep : Rep W B Ex H σ ρ ω) (h : q ρ ω) : Beh W B Ex H q σ H := ⟨Ex, ρ, ω, Stp.refl, rep, h⟩
theorem dss_nil : DSs X W [] dNext := DSs.of pss_nil fun B Ex ρ ω σ H D0 rep q => beh_now rep q
theorem dss_cons (h : DS X W st t) (h2 : DSs X W sts u) : DSs X W (st :: sts) (dSeq t u) :=
  DSs.of (pss_cons h.ps h2.pss) fun B Ex ρ ω σ H D0 rep q => ⟨B, Ex, ρ, ω, _, rep, q, ⟨fun σ' H' ⟨Ex', ρ', ω', s, r, z⟩ => ⟨B, Ex', ρ', ω', D0, r, z, ends_le s⟩, fun _ _ h => h, fun _ _ h => h, fun _ _ h => h⟩⟩
theorem dss_one (h : DS X W st t) : DSs X W [st] t :=
  DSs.of (pss_one h.ps) fun B Ex ρ ω σ H D0 rep q => ⟨B, Ex, ρ, ω, D0, rep, q, ELe.refl⟩
theorem ds_pass : DS X W (.Pass pos) dNext := DS.of ps_pass fun B Ex ρ ω σ H D0 rep q => beh_now rep q
theorem ds_doc {x j p'} : DS X W (.Expr (.Constant (.str x) j pos) p') dNext := DS.of ps_doc fun B Ex ρ ω σ H D0 rep q => beh_now rep q
def dBrk {W : Wo} : DTS W := fun D0 ρ ω => D0.bk ρ ω
def dCnt {W : Wo} : DTS W := fun D0 ρ ω => D0.ct ρ ω
theorem ds_brk : DS X W (.Break pos) dBrk := DS.of ps_break fun B Ex ρ ω σ H D0 rep q => beh_now rep q
theorem ds_cnt : DS X W (.Continue pos) dCnt := DS.of ps_continue fun B Ex ρ ω σ H D0 rep q => beh_now rep q
theorem Rep.stp {B : Bs} {Ex : Addr → Prop} {H H' : Hp} {σ : List (Option V)} {ρ : Rho} {ω ω' : W.Om} (rep : Rep W B Ex H σ ρ ω) (k : Kp W H H') (w : W.at Ex ω' H') : Stp Ex H Ex H' :=
  Stp.of k (fun _ m => rep.muEx m) (rep.go k w).tr
/-- a value goes out -/
theorem Rep.fin {B : Bs} {Ex : Addr → Prop} {H H' : Hp} {σ : List (Option V)} {ρ : Rho} {ω ω' : W.Om} (rep : Rep W B Ex H σ ρ ω) (k : Kp W H H') (w : W.at Ex ω' H') {v : V} {d : D} {q : D → W.Om → Prop} (z : Dq H' Ex v d) (h : q d ω') : Fin W B q v H' :=
  ⟨d, ω', rep.kp.trans k, W.le w fun b m => .inl (rep.sub b m), z.to fun a o e n => ⟨e, fun m => n (rep.sub a m)⟩, h⟩
def dRet {W : Wo} (te : DT W) : DTS W := fun D0 ρ ω => te ρ ω D0.rt
theorem ds_ret (h : DE X W e te) : DS X W (.Return (some e) pos) (dRet te) := DS.of (ps_ret h.pe) fun B Ex ρ ω σ H D0 rep q =>
  ⟨B, Ex, ρ, ω, _, rep, q, fun d ω' v H' q' k w z => rep.fin k w z q'⟩
def dRetN {W : Wo} : DTS W := fun D0 ρ ω => D0.rt .non ω
theorem ds_retN : DS X W (.Return none pos) dRetN := DS.of ps_retN fun B Ex ρ ω σ H D0 rep q => rep.fin Kp.refl rep.wo .non q
def dDrop {W : Wo} (te : DT W) : DTS W := fun D0 ρ ω => te ρ ω fun _ ω' => D0.nx ρ ω'
theorem ds_expr (h : DE X W e te) (hs : swapsWith e none pos.line X.env = pure false := by rfl) : DS X W (.Expr e pos) (dDrop te) := DS.of (ps_expr h.pe hs) fun B Ex ρ ω σ H D0 rep q =>
  ⟨B, Ex, ρ, ω, _, rep, q, fun d ω' v H' q' k w z => ⟨Ex, ρ, ω', rep.stp k w, rep.go k w, q'⟩⟩
def dSet {W : Wo} (i : Nat) (te : DT W) : DTS W := fun D0 ρ ω => te ρ ω fun d ω' => D0.nx (ρ.set i (some (.d d))) ω'
theorem ds_set {i : Nat} {x : Str} {p' : Pos} (hN : X.N.Nodup) (hi : X.N[i]? = some x) (hx : Loc X.env.scope x) (h : DE X W e te) (hs : swapsWith e (some (.Name x p')) pos.line X.env = pure false := by rfl)
    (hf : X.fn x = true ∨ X.env.scope.names.lookup x = some .local := by first | exact .inl rfl | exact .inr rfl | assumption) : DS X W (.Assign [.Name x p'] e pos) (dSet i te) :=
  DS.of (ps_set hN hi hx h.pe hs hf) fun B Ex ρ ω σ H D0 rep q => ⟨B, Ex, ρ, ω, _, rep, q, fun d ω' v H' q' k w z => ⟨Ex, _, ω', rep.stp k w, (rep.go k w).set z i, q'⟩⟩
def dIfS {W : Wo} (tc : DB W) (t u : DTS W) : DTS W := fun D0 ρ ω => tc ρ ω fun b ω' => if b = true then t D0 ρ ω' else u D0 ρ ω'
theorem ds_if {c : Expr} {a b : List Stmt} {tc : DB W} (hc : DP X W c tc) (ha : DSs X W a t) (hb : DSs X W b u) : DS X W (.If c a b pos) (dIfS tc t u) :=
  DS.of (ps_if hc.pt ha.pss hb.pss) fun B Ex ρ ω σ H D0 rep q => ⟨B, Ex, ρ, ω, _, rep, q, fun c ω' H' q' k w => by
    cases c with
    | true => exact ⟨B, Ex, ρ, ω', D0, rep.go k w, q', ends_le (rep.stp k w)⟩
    | false => exact ⟨B, Ex, ρ, ω', D0, rep.go k w, q', ends_le (rep.stp k w)⟩⟩
end

/-! ## targets -/
def setD (i : Nat) : D → Rho → Option Rho := fun d ρ => some (ρ.set i (some (.d d)))
def setAll : List Nat → List D → Rho → Rho
  | i :: is, d :: ds, ρ => setAll is ds (ρ.set i (some (.d d)))
  | _, _, ρ => ρ
def setT (is : List Nat) : D → Rho → Option Rho := fun d ρ => match d with
  | .tup ds => if ds.length = is.length then some (setAll is ds ρ) else none
  | _ => none
/-- a target as data, setting the slots vs alone -/
structure Gf (g : TG) (vs : List Nat) (f : D → Rho → Option Rho) : Prop where
  run : ∀ {W : Wo} {B : Bs} {Ex : Addr → Prop} {H : Hp} {σ : List (Option V)} {ρ ρ' : Rho} {ω : W.Om} {v : V} {d : D} {Q : List (Option V) → Hp → Prop}, Rep W B Ex H σ ρ ω → Dq H Ex v d → f d ρ = some ρ' →
    (∀ σ', Rep W B Ex H σ' ρ' ω → wipe σ' vs = wipe σ vs → Q σ' H) → g v σ H Q
theorem wipe_set (σ : List (Option V)) (i : Nat) (o : Option V) : ∀ {vs : List Nat}, i ∈ vs → wipe (σ.set i o) vs = wipe σ vs
  | [], h => by cases h
  | v :: vs, h => by
    unfold wipe
    by_cases e : i ∈ vs
    · rw [wipe_set σ i o e]
    · have ev : i = v := by
        rcases List.mem_cons.mp h with h | h
        · exact h
        · exact absurd h e
      subst ev
      have key : ∀ (l : List Nat), i ∉ l → wipe (σ.set i o) l = (wipe σ l).set i o := by
        intro l hl
        induction l with
        | nil => rfl
        | cons j l ih =>
          have h1 : i ∉ l := fun z => hl (List.mem_cons_of_mem _ z)
          have h2 : i ≠ j := fun z => hl (z ▸ List.mem_cons_self)
          show ((wipe (σ.set i o) l).set j none) = ((wipe σ l).set j none).set i o
          rw [ih h1, List.set_comm _ _ h2]
      rw [key vs e, List.set_set]
theorem gf_name (i : Nat) : Gf (gName i) [i] (setD i) := ⟨fun {W B Ex H σ ρ ρ' ω v d Q} rep q e k => by
  cases e
  exact k _ (rep.set q i) (wipe_set σ i _ List.mem_cons_self)⟩
def gNames : List Nat → TGs
  | [] => gNil
  | i :: is => gCons (gName i) (gNames is)
theorem gnames_run {W : Wo} {B : Bs} {Ex : Addr → Prop} {H : Hp} {ω : W.Om} {Q : List (Option V) → Hp → Prop} (all : List Nat) : ∀ (is : List Nat) {vs : List V} {ds : List D} {σ : List (Option V)} {ρ : Rho}, (∀ i ∈ is, i ∈ all) → ds.length = is.length →
    Rep W B Ex H σ ρ ω → DqL H Ex vs ds → (∀ σ', Rep W B Ex H σ' (setAll is ds ρ) ω → wipe σ' all = wipe σ all → Q σ' H) → gNames is vs σ H Q
  | [], vs, ds, σ, ρ, _, hl, rep, h, k => by
    cases h with
    | nil => exact ⟨rfl, k σ rep rfl⟩
    | cons _ _ => cases hl
  | i :: is, vs, ds, σ, ρ, hm, hl, rep, h, k => by
    cases h with
    | nil => cases hl
    | cons h1 h2 =>
      refine ⟨_, _, rfl, ?_⟩
      refine gnames_run all is (fun j hj => hm j (List.mem_cons_of_mem _ hj)) (Nat.succ.inj hl) (rep.set h1 i) h2 fun σ' r e => k σ' r ?_
      rw [e]
      exact wipe_set σ i _ (hm i List.mem_cons_self)
theorem gf_tup (K : PySem.W.Frag) (is : List Nat) : Gf (gTup K is.length (gNames is)) is (setT is) := ⟨fun {W B Ex H σ ρ ρ' ω v d Q} rep q e k => by
  unfold setT at e
  split at e
  · split at e
    · rename_i hl
      cases e
      obtain ⟨a, vs, rfl, h1, _, h2⟩ := (Bq.of (W := W) q).ofT
      exact ⟨a, vs, rfl, SqT.of h1, by rw [h2.length]; exact hl, gnames_run is is (fun _ h => h) hl rep h2 k⟩
    · cases e
  · cases e⟩

/-! ## what is walked -/
/-- the heap as it was at H1, where S says -/
def Agr (S : Addr → Prop) (H1 H : Hp) : Prop := ∀ b o, H1 b = some o → S b → H b = some o
structure Wk (J : It) (Ex : Addr → Prop) (items : List D) (S : Addr → Prop) (H1 : Hp) : Prop where
  goes : ∀ i H, i < items.length → Agr S H1 H → J.go i H
  stops : ∀ H, Agr S H1 H → J.stop items.length H
  yields : ∀ i H x H' Ex', i < items.length → Agr S H1 H → (∀ a, Ex' a → H a ≠ none) → (∀ a, Ex' a → Ex a ∨ H1 a = none) → J.yld i H x H' → Same H H' ∧ ∃ d, items[i]? = some d ∧ Dq H' Ex' x d
abbrev DIt (W : Wo) := Rho → W.Om → (List D → W.Om → Prop) → Prop
/-- clean: what is walked leans on nothing of the def's own -/
structure DI (cl : Bool) (X : Cx) (W : Wo) (tg iter : Expr) (t : DIt W) : Prop where
  ex : ∃ wi, PI X tg iter wi ∧ ∀ (B : Bs) (Ex : Addr → Prop) (ρ : Rho) (ω : W.Om) (σ : List (Option V)) (H : Hp) (Q : List D → W.Om → Prop) (R' : It → Hp → Prop), Rep W B Ex H σ ρ ω → t ρ ω Q →
    (∀ items ω1 J H1 S, Q items ω1 → Kp W H H1 → W.at Ex ω1 H1 → (∀ b, S b → ¬ W.Mu b) → (cl = true → ∀ b, S b → ¬ Ex b) → Wk J Ex items S H1 → R' J H1) → wi σ H R'
section
variable {R : RQ} {X : Cx} {W : Wo} {tg e : Expr} {te : DT W} {pos : Pos}
/-- a list's or tuple's items, a text's signs -/
def dItL {W : Wo} (te : DT W) : DIt W := fun ρ ω Q => te ρ ω fun d ω' => ∃ ds, d = .lst ds ∧ Q ds ω'
def dItT {W : Wo} (te : DT W) : DIt W := fun ρ ω Q => te ρ ω fun d ω' => ∃ ds, d = .tup ds ∧ Q ds ω'
def signs (z : Str) : List D := z.cps.toList.map fun c => .str ⟨#[c]⟩
def dItS {W : Wo} (te : DT W) : DIt W := fun ρ ω Q => te ρ ω fun d ω' => ∃ z, d = .str z ∧ Q (signs z) ω'
theorem wk_list {Ex : Addr → Prop} {S : Addr → Prop} {H1 : Hp} {a : Addr} {vs : List V} {ds : List D} {K : PySem.W.Frag} (h : H1 a = some (.lst vs)) (ha : S a) (q : DqL H1 Ex vs ds) (hS : ∀ b, ¬ Ex b → S b) : Wk (Itl K a) Ex ds S H1 where
  goes := fun i H hi g => ⟨vs, vs[i]'(by rw [q.length]; exact hi), SqL.of (g a _ h ha), by simp⟩
  stops := fun H g => ⟨vs, SqL.of (g a _ h ha), by rw [q.length]; exact Nat.le_refl _⟩
  yields := fun i H x H' Ex' hi g tr ou ⟨e, y⟩ => by
    subst e
    refine ⟨Same.refl _, ?_⟩
    obtain ⟨d, h1, h2⟩ := q.getV (y vs (SqL.of (g a _ h ha)))
    exact ⟨d, h1, h2.to fun b o e n => ⟨g b o e (hS b n), fun m => by
      rcases ou b m with z | z
      · exact n z
      · rw [z] at e; cases e⟩⟩
theorem wk_tup {Ex : Addr → Prop} {S : Addr → Prop} {H1 : Hp} {a : Addr} {vs : List V} {ds : List D} {K : PySem.W.Frag} (h : H1 a = some (.tup vs)) (ha : S a) (q : DqL H1 Ex vs ds) (hS : ∀ b, ¬ Ex b → S b) : Wk (Itt K a) Ex ds S H1 where
  goes := fun i H hi g => ⟨vs, vs[i]'(by rw [q.length]; exact hi), SqT.of (g a _ h ha), by simp⟩
  stops := fun H g => ⟨vs, SqT.of (g a _ h ha), by rw [q.length]; exact Nat.le_refl _⟩
  yields := fun i H x H' Ex' hi g tr ou ⟨e, y⟩ => by
    subst e
    refine ⟨Same.refl _, ?_⟩
    obtain ⟨d, h1, h2⟩ := q.getV (y vs (SqT.of (g a _ h ha)))
    exact ⟨d, h1, h2.to fun b o e n => ⟨g b o e (hS b n), fun m => by
      rcases ou b m with z | z
      · exact n z
      · rw [z] at e; cases e⟩⟩
theorem di_list (h : DE X W e te) : DI true X W tg e (dItL te) := ⟨_, pi_list h.pe, fun B Ex ρ ω σ H Q R' rep q f =>
  ⟨B, Ex, ρ, ω, _, rep, q, fun d ω' v H' ⟨ds, e, q'⟩ k w z => by
    subst e
    obtain ⟨a, vs, rfl, h1, h2⟩ := (Bq.of (W := W) z).ofL
    have ha : ¬ Ex a := by cases z; assumption
    exact ⟨a, rfl, ⟨vs, SqL.of h1⟩, f ds ω' _ H' (fun b => ¬ Ex b) q' k w (fun b n m => n (rep.muEx m)) (fun _ b n => n) (wk_list h1 ha h2 fun _ n => n)⟩⟩⟩
theorem di_tup (h : DE X W e te) : DI true X W tg e (dItT te) := ⟨_, pi_tup h.pe, fun B Ex ρ ω σ H Q R' rep q f =>
  ⟨B, Ex, ρ, ω, _, rep, q, fun d ω' v H' ⟨ds, e, q'⟩ k w z => by
    subst e
    obtain ⟨a, vs, rfl, h1, ha, h2⟩ := (Bq.of (W := W) z).ofT
    exact ⟨a, rfl, ⟨vs, SqT.of h1⟩, f ds ω' _ H' (fun b => ¬ Ex b) q' k w (fun b n m => n (rep.muEx m)) (fun _ b n => n) (wk_tup h1 ha h2 fun _ n => n)⟩⟩⟩
/-- the def's own list, walked by a comprehension -/
theorem di_own (h : DX Bq X W e te) : DI false X W tg e (dItL te) := ⟨_, pi_list h.pe, fun B Ex ρ ω σ H Q R' rep q f =>
  ⟨B, Ex, ρ, ω, _, rep, q, fun d ω' v H' ⟨ds, e, q'⟩ k w z => by
    subst e
    have : ∃ a vs, v = .ref a ∧ H' a = some (.lst vs) ∧ ¬ W.Mu a ∧ DqL H' Ex vs ds := by
      cases z with
      | of q => cases q with | lst h1 h2 h3 => exact ⟨_, _, rfl, h1, fun m => h2 (rep.muEx m), h3⟩
      | lst h1 h2 h3 => exact ⟨_, _, rfl, h1, h2, h3⟩
    obtain ⟨a, vs, rfl, h1, ha, h2⟩ := this
    exact ⟨a, rfl, ⟨vs, SqL.of h1⟩, f ds ω' _ H' (fun b => ¬ Ex b ∨ b = a) q' k w (fun b n m => by
      rcases n with n | n
      · exact n (rep.muEx m)
      · subst n; exact ha m) (fun z => Bool.noConfusion z) (wk_list h1 (.inr rfl) h2 fun _ n => .inl n)⟩⟩⟩
theorem di_str (h : DE X W e te) : DI true X W tg e (dItS te) := ⟨_, pi_str h.pe, fun B Ex ρ ω σ H Q R' rep q f =>
  ⟨B, Ex, ρ, ω, _, rep, q, fun d ω' v H' ⟨z, e, q'⟩ k w zz => by
    subst e
    cases zz
    have hl : (signs z).length = z.cps.size := by unfold signs; simp
    refine ⟨z, rfl, f (signs z) ω' _ H' (fun b => ¬ Ex b) q' k w (fun b n m => n (rep.muEx m)) (fun _ b n => n) ⟨fun i H hi _ => by rw [hl] at hi; exact hi, fun H _ => by rw [hl]; exact Nat.le_refl _, fun i H x H' Ex' hi _ _ _ ⟨e, c, h1, h2⟩ => ?_⟩⟩
    subst e
    subst h2
    refine ⟨Same.refl _, .str ⟨#[c]⟩, ?_, .str _⟩
    unfold signs
    rw [List.getElem?_map, Array.getElem?_toList, h1]
    rfl⟩⟩
/-- range(n), range(a, b) -/
def rngD (lo : Int) (n : Nat) : List D := (List.range n).map fun (i : Nat) => D.int (lo + (i : Int))
def dRng1 {W : Wo} (te : DT W) : DIt W := fun ρ ω Q => te ρ ω fun d ω' => ∃ n : Int, d = .int n ∧ -(2 ^ 62) ≤ n ∧ n < 2 ^ 62 ∧ Q (rngD 0 n.toNat) ω'
theorem wk_rng {Ex : Addr → Prop} {S : Addr → Prop} {H1 : Hp} {lo : Int} {n : Nat} : Wk (Itr lo n) Ex (rngD lo n) S H1 where
  goes := fun i H hi g => by unfold rngD at hi; simp at hi; exact hi
  stops := fun H g => by
    show n ≤ _
    unfold rngD
    simp
  yields := fun i H x H' Ex' hi g tr ou ⟨e, y⟩ => by
    subst e
    subst y
    unfold rngD at hi
    simp at hi
    refine ⟨Same.refl _, .int (lo + i), ?_, .int _⟩
    unfold rngD
    rw [List.getElem?_map, List.getElem?_range hi]
    rfl
theorem di_rng1 {p : Pos} (hg : Gl X "range") (hm : X.mg "range" = none) (h : DE X W e te) (hs : starEach [e] X.env = [(false, eval e X.env)] := by rfl) : DI true X W tg (.Call (.Name "range" p) [e] [] pos) (dRng1 te) :=
  ⟨_, pi_range1 hg hm (pa_cons h.pe pa_nil hs) hs, fun B Ex ρ ω σ H Q R' rep q f => ⟨B, Ex, ρ, ω, _, rep, q, fun d ω' v H' ⟨n, e, b1, b2, q'⟩ k w z => by
    subst e
    cases z
    exact ⟨n, rfl, b1, b2, f _ ω' _ H' (fun b => ¬ Ex b) q' k w (fun b n m => n (rep.muEx m)) (fun _ b n => n) wk_rng⟩⟩⟩
def dRng2 {W : Wo} (ta tb : DT W) : DIt W := fun ρ ω Q => ta ρ ω fun x ω1 => tb ρ ω1 fun y ω2 => ∃ i j : Int, x = .int i ∧ y = .int j ∧ (-(2 ^ 62) ≤ i ∧ i < 2 ^ 62 ∧ -(2 ^ 62) ≤ j ∧ j < 2 ^ 62) ∧ Q (rngD i (j - i).toNat) ω2
theorem di_rng2 {p : Pos} {a b : Expr} {ta tb : DT W} (hg : Gl X "range") (hm : X.mg "range" = none) (ha : DE X W a ta) (hb : DE X W b tb) (hs : starEach [a, b] X.env = [(false, eval a X.env), (false, eval b X.env)] := by rfl) (hs2 : starEach [b] X.env = [(false, eval b X.env)] := by rfl) :
    DI true X W tg (.Call (.Name "range" p) [a, b] [] pos) (dRng2 ta tb) :=
  ⟨_, pi_range2 hg hm (pa_cons ha.pe (pa_cons hb.pe pa_nil hs2) (by rw [hs, hs2])) hs hs2, fun B Ex ρ ω σ H Q R' rep q f => two rep q fun x y dx dy H2 ω2 k rp zx zy ⟨i, j, e1, e2, bb, q'⟩ => by
    subst e1
    subst e2
    cases zx
    cases zy
    exact ⟨i, j, rfl, bb, f _ ω2 _ H2 (fun b => ¬ Ex b) q' k rp.wo (fun b n m => n (rep.muEx m)) (fun _ b n => n) wk_rng⟩⟩
end

/-! ## comprehensions -/
def wipeD (ρ : Rho) : List Nat → Rho
  | [] => ρ
  | v :: vs => (wipeD ρ vs).set v none
theorem Rep.wipe {W : Wo} {B : Bs} {Ex : Addr → Prop} {H : Hp} {σ : List (Option V)} {ρ : Rho} {ω : W.Om} (R : Rep W B Ex H σ ρ ω) : ∀ vs : List Nat, Rep W B Ex H (L2.wipe σ vs) (wipeD ρ vs) ω
  | [] => R
  | v :: vs => (Rep.wipe R vs).clr v none
/-- tests of a comprehension -/
structure DTs (X : Cx) (W : Wo) (ifs : List Expr) (t : DB W) : Prop where
  ex : ∃ tt, PTs X ifs tt ∧ ∀ (B : Bs) (Ex : Addr → Prop) (ρ : Rho) (ω : W.Om) (σ : List (Option V)) (H : Hp) (Q : Bool → W.Om → Prop) (Q' : Bool → Hp → Prop), Rep W B Ex H σ ρ ω → t ρ ω Q →
    (∀ b ω' H', Q b ω' → Kp W H H' → W.at Ex ω' H' → Q' b H') → tt σ H Q'
def dYes {W : Wo} : DB W := fun _ ω Q => Q true ω
def lcW {W : Wo} (f : D → Rho → Option Rho) (tt : DB W) (te : DT W) (ρ : Rho) : List D → List D → W.Om → (D → W.Om → Prop) → Prop
  | [], acc, ω, Q => Q (.lst acc) ω
  | x :: xs, acc, ω, Q => ∃ ρ', f x ρ = some ρ' ∧ tt ρ' ω fun b ω' => if b = true then te ρ' ω' fun d ω2 => acc.length < sizeLine ∧ lcW f tt te ρ xs (acc ++ [d]) ω2 Q else lcW f tt te ρ xs acc ω' Q
def dLc {W : Wo} (ti : DIt W) (vs : List Nat) (f : D → Rho → Option Rho) (tt : DB W) (te : DT W) : DT W := fun ρ ω Q => ti ρ ω fun items ω1 => lcW f tt te (wipeD ρ vs) items [] ω1 Q
theorem wipe_set_none (v : Nat) : ∀ (l : List (Option V)) (us : List Nat), (L2.wipe (l.set v none) us).set v none = (L2.wipe l us).set v none
  | l, [] => List.set_set ..
  | l, u :: us => by
    show ((L2.wipe (l.set v none) us).set u none).set v none = ((L2.wipe l us).set u none).set v none
    by_cases e : u = v
    · subst e
      rw [List.set_set, List.set_set]
      exact wipe_set_none u l us
    · rw [List.set_comm _ _ e, wipe_set_none v l us, List.set_comm _ _ (Ne.symm e)]
theorem wipe_idem (σ : List (Option V)) : ∀ vs : List Nat, L2.wipe (L2.wipe σ vs) vs = L2.wipe σ vs
  | [] => rfl
  | v :: vs => by
    show (L2.wipe ((L2.wipe σ vs).set v none) vs).set v none = (L2.wipe σ vs).set v none
    rw [wipe_set_none, wipe_idem σ vs]
/-- the walk of a comprehension -/
theorem lc_run {W : Wo} {B : Bs} {Ex : Addr → Prop} {σ : List (Option V)} {ρ : Rho} {H H1 : Hp} {ω ω1 : W.Om} {vs : List Nat} {g : TG} {f : D → Rho → Option Rho} {tt : TT} {te : TE} {ttD : DB W} {teD : DT W} {J : It} {S : Addr → Prop} {items : List D} {Q : D → W.Om → Prop} {D : Addr} {Qd : Hp → Prop}
    (rep : Rep W B Ex H σ ρ ω) (k1 : Kp W H H1) (w1 : W.at Ex ω1 H1) (hm : ∀ b, S b → ¬ W.Mu b) (wk : Wk J Ex items S H1) (hD : H1 D = none) (G : Gf g vs f)
    (ht : ∀ (B : Bs) (Ex : Addr → Prop) (ρ : Rho) (ω : W.Om) (σ : List (Option V)) (H : Hp) (Q : Bool → W.Om → Prop) (Q' : Bool → Hp → Prop), Rep W B Ex H σ ρ ω → ttD ρ ω Q → (∀ b ω' H', Q b ω' → Kp W H H' → W.at Ex ω' H' → Q' b H') → tt σ H Q')
    (he : ∀ (B : Bs) (Ex : Addr → Prop) (ρ : Rho) (ω : W.Om) (σ : List (Option V)) (H : Hp) (Q : Tk.D → W.Om → Prop) (Q' : V → Hp → Prop), Rep W B Ex H σ ρ ω → teD ρ ω Q → (∀ d ω' v H', Q d ω' → Kp W H H' → W.at Ex ω' H' → Dq H' Ex v d → Q' v H') → te σ H Q')
    (q : lcW f ttD teD (wipeD ρ vs) items [] ω1 Q)
    (done : ∀ (acc : List V) (ds : List Tk.D) (ω' : W.Om) (H' : Hp), Q (.lst ds) ω' → Kp W H H' → W.at (fun b => Ex b ∨ b = D) ω' H' → H' D = some (.lst acc) → DqL H' (fun b => Ex b ∨ b = D) acc ds → Qd H') :
    ∃ Wv : Nat → Nat → Hp → Prop, (∃ m, Wv 0 m (upd H1 D (.lst []))) ∧ ∀ i m H, Wv i m H →
      (J.stop i H ∧ Qd H) ∨ (J.go i H ∧ ∃ Nx : Hp → Prop, (∀ H', Nx H' → ∃ m', m' < m ∧ Wv (i + 1) m' H') ∧ ∀ x H', J.yld i H x H' → g x (L2.wipe σ vs) H' fun σ2 H2 => L2.wipe σ2 vs = L2.wipe σ vs ∧ tt σ2 H2 fun b H3 =>
        if b = true then te σ2 H3 fun y H4 => ∃ acc, H4 D = some (.lst acc) ∧ acc.length < sizeLine ∧ Nx (upd H4 D (.lst (acc ++ [y]))) else Nx H3) := by
  have r1 := rep.go k1 w1
  have s1 : Same H1 (upd H1 D (.lst [])) := same_upd hD
  have hD0 : B.H0 D = none := r1.out0 hD
  have nMu : ¬ W.Mu D := fun m => W.tk w1 m hD
  have rw1 := r1.wipe vs
  have nOwn := fun j z e o s => rw1.noOwn (p := D) hD j z e o s
  have neS : ∀ b o, H1 b = some o → b ≠ D := fun b o e z => by subst z; rw [hD] at e; cases e
  let P : Nat → Hp → Prop := fun i H' => ∃ acc ds ωi, i ≤ items.length ∧ H' D = some (.lst acc) ∧ Kp W H1 H' ∧ Rep W B (fun b => Ex b ∨ b = D) H' (L2.wipe σ vs) (wipeD ρ vs) ωi ∧
    DqL H' (fun b => Ex b ∨ b = D) acc ds ∧ lcW f ttD teD (wipeD ρ vs) (items.drop i) ds ωi Q
  have agr : ∀ {H'}, Kp W H1 H' → Agr S H1 H' := fun k b o e sb => k b o e (hm b sb)
  refine ⟨fun i m H' => m = items.length - i ∧ P i H', ⟨items.length, by simp, [], [], ω1, Nat.zero_le _, upd_same, Kp.same s1, rw1.alloc hD _, .nil, by simpa using q⟩, ?_⟩
  rintro i m H2 ⟨rfl, acc, ds, ωi, hi, hd, k2, r2, dl, q2⟩
  by_cases hlt : i < items.length
  · refine .inr ⟨wk.goes i H2 hlt (agr k2), fun H' => P (i + 1) H', fun H' p => ⟨_, by omega, rfl, p⟩, fun x H3 y => ?_⟩
    obtain ⟨sm, d, hd', dq⟩ := wk.yields i H2 x H3 (fun b => Ex b ∨ b = D) hlt (agr k2) r2.tr (fun a h => by
      rcases h with h | h
      · exact .inl h
      · subst h; exact .inr hD) y
    have r3 := r2.grow sm
    have ed : items.drop i = d :: items.drop (i + 1) := by
      rw [List.drop_eq_getElem_cons hlt]
      have : items[i] = d := by
        rw [List.getElem?_eq_getElem hlt] at hd'
        exact Option.some.inj hd'
      rw [this]
    rw [ed] at q2
    obtain ⟨ρ', ef, q3⟩ := q2
    refine G.run r3 dq ef fun σ' rs ew => ?_
    refine ⟨by rw [ew, wipe_idem], ?_⟩
    refine ht _ _ _ _ _ _ _ _ rs q3 fun b ω' H4 q4 k4 w4 => ?_
    have rs4 := rs.go k4 w4
    cases b with
    | false =>
      rw [if_neg Bool.false_ne_true] at q4
      rw [if_neg Bool.false_ne_true]
      exact ⟨acc, ds, ω', hlt, k4 D _ (sm D _ hd) nMu, k2.trans ((Kp.same sm).trans k4), r3.go k4 w4, (dl.same sm).to fun a o e n => ⟨k4 a o e fun z => n (r2.muEx z), n⟩, q4⟩
    | true =>
      rw [if_pos rfl] at q4
      rw [if_pos rfl]
      refine he _ _ _ _ _ _ _ _ rs4 q4 fun d2 ω5 v H5 ⟨hz, q5⟩ k5 w5 dq5 => ?_
      have kk := (Kp.same (W := W) sm).trans (k4.trans k5)
      have hd5 := kk D _ hd nMu
      have r5 := r2.go kk w5
      have ne5 : ∀ a, ¬ (Ex a ∨ a = D) → a ≠ D := fun a n e => n (.inr e)
      refine ⟨acc, hd5, by rw [dl.length]; exact hz, acc ++ [v], ds ++ [d2], ω5, hlt, upd_same, fun b o e n => ?_, r5.poke (.inr rfl) hD0 _ nOwn, ?_, q5⟩
      · rw [upd_ne (neS b o e)]
        exact kk b o (k2 b o e n) n
      · refine DqL.append ?_ (.cons ?_ .nil)
        · exact dl.to fun a o e n => ⟨by rw [upd_ne (ne5 a n)]; exact kk a o e fun z => n (r2.muEx z), n⟩
        · exact dq5.to fun a o e n => ⟨by rw [upd_ne (ne5 a n)]; exact e, n⟩
  · have e : i = items.length := by omega
    subst e
    have e0 : items.drop items.length = [] := List.drop_length
    rw [e0] at q2
    exact .inl ⟨wk.stops H2 (agr k2), done acc ds ωi H2 q2 (k1.trans k2) r2.wo hd dl⟩
section
variable {X : Cx} {W : Wo} {pos : Pos}
theorem dts_nil : DTs X W [] dYes := ⟨_, pts_nil, fun B Ex ρ ω σ H Q Q' rep q f => f true ω H q Kp.refl rep.wo⟩
theorem dts_one {c : Expr} {t : DB W} (h : DP X W c t) : DTs X W [c] t := ⟨_, pts_one h.pt, fun B Ex ρ ω σ H Q Q' rep q f => ⟨B, Ex, ρ, ω, Q, rep, q, f⟩⟩
/-- [e for x in xs if t], as a value -/
theorem de_lc {cl : Bool} {elt tg iter : Expr} {ifs : List Expr} {scope : Scope} {own : List (Str × Nat)} {ti : DIt W} {g : TG} {f : D → Rho → Option Rho} {tt : DB W} {te : DT W} (hc : X.calm = true) (hN : X.N.Nodup) (hi : DI cl X W tg iter ti) (ok : BlkOk X.N X.env.scope scope own)
    (G : Gf g (own.map (·.2)) f) (hg : ∀ (s : Shared) (H : Hp) (C : Addr) (cl : List (Str × Addr)) (fp : List Addr), PG (X.blk s H scope (compEnvC scope cl C X.env) fp) tg g)
    (ht : ∃ tt', (∀ (s : Shared) (H : Hp) (C : Addr) (cl : List (Str × Addr)) (fp : List Addr), PTs (X.blk s H scope (compEnvC scope cl C X.env) fp) ifs tt') ∧
      ∀ (B : Bs) (Ex : Addr → Prop) (ρ : Rho) (ω : W.Om) (σ : List (Option V)) (H : Hp) (Q : Bool → W.Om → Prop) (Q' : Bool → Hp → Prop), Rep W B Ex H σ ρ ω → tt ρ ω Q → (∀ b ω' H', Q b ω' → Kp W H H' → W.at Ex ω' H' → Q' b H') → tt' σ H Q')
    (he : ∀ (s : Shared) (H : Hp) (C : Addr) (cl : List (Str × Addr)) (fp : List Addr), DE (X.blk s H scope (compEnvC scope cl C X.env) fp) W elt te) (hs : ∀ x, foldedSetIterable iter X.env x = pure x := by intro _; rfl) :
    DE X W (.ListComp elt [⟨tg, iter, ifs, 0⟩] scope pos) (dLc ti (own.map (·.2)) f tt te) := by
  obtain ⟨wi, h1, h2⟩ := hi
  obtain ⟨tt', t1, t2⟩ := ht
  refine DX.of (pe_lc hc hN h1 ok hg t1 (fun s H C cl fp => (he s H C cl fp).pe) hs) fun B Ex ρ ω σ H Q rep q => h2 B Ex ρ ω σ H _ _ rep q fun items ω1 J H1 S q1 k1 w1 hm _ wk D hD => ?_
  refine lc_run rep k1 w1 hm wk hD G t2 (fun B Ex ρ ω σ H Q Q' rep q f => ⟨B, Ex, ρ, ω, Q, rep, q, f⟩) q1 fun acc ds ω' H' q' k' w' hd dl => ?_
  have nE : ¬ Ex D := (rep.go k1 w1).new hD
  exact ⟨_, ω', k', W.le w' fun b m => .inl (.inl m), .lst hd nE (dl.to fun a o e n => ⟨e, fun z => n (.inl z)⟩), q'⟩
end
end Tk

namespace Tk
open PySem PySem.Spec PyProof.Rows L2

/-! ## the def's own lists -/
section
variable {W : Wo} {B : Bs} {Ex Ex' Ex2 : Addr → Prop} {H H' H2 : Hp} {σ : List (Option V)} {ρ : Rho} {ω ω' : W.Om} {i : Nat}
/-- a slot is set to an object of the def's own that no other slot has -/
theorem Rep.setSl (R : Rep W B Ex H σ ρ ω) {a : Addr} {z : Sl} (hz : isOwn z = true) (q : Own H Ex a z) (i : Nat) (h0 : B.H0 a = none)
    (ap : ∀ (j : Nat) (y : Sl), j ≠ i → ρ[j]? = some (some y) → isOwn y = true → σ[j]? = some (some (.ref a)) → False) : Rep W B Ex H (σ.set i (some (.ref a))) (ρ.set i (some z)) ω where
  wo := R.wo
  mu := R.mu
  sub := R.sub
  out := R.out
  tr0 := R.tr0
  tr := R.tr
  kp := R.kp
  len := by rw [List.length_set, List.length_set]; exact R.len
  sl := fun j y e => by
    rcases of_set e with ⟨h1, h2⟩ | ⟨h1, h2⟩
    · subst h1
      cases h2
      have hl : j < σ.length := by rw [R.len]; exact lt_of_set e
      refine ⟨some (.ref a), List.getElem?_set_self hl, ?_⟩
      cases z with
      | d d => cases hz
      | own ds => exact ⟨a, rfl, q⟩
      | odc ds => exact ⟨a, rfl, q⟩
    · obtain ⟨o, g1, g2⟩ := R.sl j y h2
      exact ⟨o, by rw [get_set_ne h1]; exact g1, g2⟩
  dis := fun j k y y' b e1 e2 o1 o2 s1 s2 => by
    rcases of_set e1 with ⟨h1, h2⟩ | ⟨h1, h2⟩
    · rcases of_set e2 with ⟨g1, g2⟩ | ⟨g1, g2⟩
      · rw [h1, g1]
      · subst h1
        have hl : j < σ.length := by rw [R.len]; exact lt_of_set e1
        rw [List.getElem?_set_self hl] at s1
        cases s1
        rw [get_set_ne g1] at s2
        exact (ap k y' g1 g2 o2 s2).elim
    · rcases of_set e2 with ⟨g1, g2⟩ | ⟨g1, g2⟩
      · subst g1
        have hl : k < σ.length := by rw [R.len]; exact lt_of_set e2
        rw [List.getElem?_set_self hl] at s2
        cases s2
        rw [get_set_ne h1] at s1
        exact (ap j y h1 h2 o1 s1).elim
      · rw [get_set_ne h1] at s1
        rw [get_set_ne g1] at s2
        exact R.dis j k y y' b h2 g2 o1 o2 s1 s2
  ofr := fun j y b e o s => by
    rcases of_set e with ⟨h1, h2⟩ | ⟨h1, h2⟩
    · subst h1
      have hl : j < σ.length := by rw [R.len]; exact lt_of_set e
      rw [List.getElem?_set_self hl] at s
      cases s
      exact h0
    · rw [get_set_ne h1] at s
      exact R.ofr j y b h2 o s
/-- no slot leans on what was not there: it may be shut out -/
theorem Rep.shut (R : Rep W B Ex H σ ρ ω) {a : Addr} (n : H a = none) (k : Kp W H H') (w : W.at (fun b => Ex b ∨ b = a) ω' H') (t : H' a ≠ none) : Rep W B (fun b => Ex b ∨ b = a) H' σ ρ ω' where
  wo := w
  mu := R.mu
  sub := fun b h => .inl (R.sub b h)
  out := fun b h => by
    rcases h with h | h
    · exact R.out b h
    · subst h; exact .inr (R.out0 n)
  tr0 := R.tr0
  tr := fun b h => by
    rcases h with h | h
    · by_cases m : W.Mu b
      · exact W.tk w m
      · cases e : H b with
        | none => exact absurd e (R.tr b h)
        | some u => rw [k b u e m]; exact fun z => nomatch z
    · subst h; exact t
  kp := R.kp.trans k
  len := R.len
  sl := fun j z e => by
    obtain ⟨u, g1, g2⟩ := R.sl j z e
    refine ⟨u, g1, g2.to (fun _ h => .inl h) (fun b w e1 q e3 => k b w q ?_) fun b w q x => ⟨k b w q fun m => x (R.muEx m), fun m => ?_⟩⟩
    · subst e1
      exact R.notMu (R.ofr j z b e e3 g1)
    · rcases m with m | m
      · exact x m
      · subst m; rw [n] at q; cases q
  dis := R.dis
  ofr := R.ofr
theorem stp_shut (R : Rep W B Ex H σ ρ ω) {a : Addr} (n : H a = none) (k : Kp W H H') (w : W.at (fun b => Ex b ∨ b = a) ω' H') : Stp Ex H (fun b => Ex b ∨ b = a) H' where
  out := fun b h => by
    rcases h with h | h
    · exact .inl h
    · subst h; exact .inr n
  kp := fun b o e x => k b o e fun m => x (R.muEx m)
  tr := fun b h => by
    by_cases m : W.Mu b
    · exact W.tk w m
    · cases e : H b with
      | none => exact absurd e h
      | some u => rw [k b u e m]; exact fun z => nomatch z
/-- the own object in slot i is changed -/
theorem Rep.ownUpd (R : Rep W B Ex H σ ρ ω) {a : Addr} {z y : Sl} {o : HO} (hi : ρ[i]? = some (some z)) (hz : isOwn z = true) (hs : σ[i]? = some (some (.ref a))) (hy : isOwn y = true) (ex : Ex a) (q : Own (upd H a o) Ex a y) :
    Rep W B Ex (upd H a o) σ (ρ.set i (some y)) ω ∧ Stp Ex H Ex (upd H a o) := by
  have h0 := R.ofr i z a hi hz hs
  have other : ∀ (j : Nat) (y : Sl), j ≠ i → (ρ.set i none)[j]? = some (some y) → isOwn y = true → σ[j]? = some (some (.ref a)) → False := fun j y ne e oy s => by
    rw [get_set_ne ne] at e
    exact ne (R.dis j i y z a e hi oy hz s hs)
  have r1 := (R.clr' i).poke ex h0 o fun j y e oy s => by
    by_cases ne : j = i
    · subst ne
      rcases of_set e with ⟨_, h2⟩ | ⟨h1, _⟩
      · cases h2
      · exact h1 rfl
    · exact other j y ne e oy s
  have r2 := r1.setSl hy q i h0 other
  have e1 : σ.set i (some (.ref a)) = σ := by
    apply List.ext_getElem?
    intro j
    by_cases e : j = i
    · subst e
      have hl : j < σ.length := (List.getElem?_eq_some_iff.mp hs).1
      rw [List.getElem?_set_self hl, hs]
    · exact get_set_ne e
  have e2 : (ρ.set i none).set i (some y) = ρ.set i (some y) := List.set_set ..
  rw [e1, e2] at r2
  refine ⟨r2, ⟨fun _ h => .inl h, fun b u e x => ?_, fun b h => ?_⟩⟩
  · rw [upd_ne fun z => by subst z; exact x ex]
    exact e
  · by_cases e : b = a
    · subst e; rw [upd_same]; exact fun z => nomatch z
    · rw [upd_ne e]; exact h
theorem Rep.own (R : Rep W B Ex H σ ρ ω) {ds : List D} (e : ρ[i]? = some (some (.own ds))) : ∃ a vs, σ[i]? = some (some (.ref a)) ∧ Ex a ∧ ¬ W.Mu a ∧ B.H0 a = none ∧ H a = some (.lst vs) ∧ DqL H Ex vs ds := by
  obtain ⟨o, h1, h2⟩ := R.sl i _ e
  cases o with
  | none => exact h2.elim
  | some v =>
    obtain ⟨a, rfl, x, vs, h3, h4⟩ := h2
    have h0 := R.ofr i _ a e rfl h1
    exact ⟨a, vs, h1, x, R.notMu h0, h0, h3, h4⟩
theorem Rep.odc (R : Rep W B Ex H σ ρ ω) {ds : List (Key × D)} (e : ρ[i]? = some (some (.odc ds))) : ∃ a vs, σ[i]? = some (some (.ref a)) ∧ Ex a ∧ ¬ W.Mu a ∧ B.H0 a = none ∧ H a = some (.dK vs) ∧ DqK H Ex vs ds := by
  obtain ⟨o, h1, h2⟩ := R.sl i _ e
  cases o with
  | none => exact h2.elim
  | some v =>
    obtain ⟨a, rfl, x, vs, h3, h4⟩ := h2
    have h0 := R.ofr i _ a e rfl h1
    exact ⟨a, vs, h1, x, R.notMu h0, h0, h3, h4⟩
/-- the own list in slot i is data from now on -/
theorem Rep.frz (R : Rep W B Ex H σ ρ ω) {ds : List D} (e : ρ[i]? = some (some (.own ds))) : ∃ Ex', Rep W B Ex' H σ (ρ.set i (some (.d (.lst ds)))) ω ∧ Stp Ex H Ex' H := by
  obtain ⟨a, vs, h1, h2, nm, h3, h4, h5⟩ := R.own e
  have sub : ∀ b, (Ex b ∧ b ≠ a) → Ex b := fun b h => h.1
  have to : ∀ {v d}, Dq H Ex v d → Dq H (fun b => Ex b ∧ b ≠ a) v d := fun q => q.to fun b o e n => ⟨e, fun m => n m.1⟩
  have toL : ∀ {v d}, DqL H Ex v d → DqL H (fun b => Ex b ∧ b ≠ a) v d := fun q => q.to fun b o e n => ⟨e, fun m => n m.1⟩
  have toK : ∀ {v d}, DqK H Ex v d → DqK H (fun b => Ex b ∧ b ≠ a) v d := fun q => q.to fun b o e n => ⟨e, fun m => n m.1⟩
  refine ⟨fun b => Ex b ∧ b ≠ a, ⟨W.le R.wo fun b h => .inl h.1, R.mu, fun b h => ⟨R.sub b h, fun z => by subst z; exact R.tr0 b h h3⟩, fun b h => R.out b h.1, R.tr0, fun b h => R.tr b h.1, R.kp, by rw [List.length_set]; exact R.len, fun j z ez => ?_, fun j k y y' b e1 e2 o1 o2 s1 s2 => ?_, fun j y b e o s => ?_⟩, ⟨fun b h => .inl h.1, fun _ _ h _ => h, fun _ h => h⟩⟩
  · rcases of_set ez with ⟨g1, g2⟩ | ⟨g1, g2⟩
    · subst g1
      cases g2
      exact ⟨_, h1, .lst h4 (fun m => m.2 rfl) (toL h5)⟩
    · obtain ⟨o, k1, k2⟩ := R.sl j z g2
      refine ⟨o, k1, ?_⟩
      cases o with
      | none => exact k2
      | some v =>
        cases z with
        | d d => exact to k2
        | own es =>
          obtain ⟨b, rfl, x, ws, l1, l2⟩ := k2
          exact ⟨b, rfl, ⟨x, fun z => by subst z; exact g1 (R.dis j i _ _ b g2 e rfl rfl k1 h1)⟩, ws, l1, toL l2⟩
        | odc es =>
          obtain ⟨b, rfl, x, ws, l1, l2⟩ := k2
          exact ⟨b, rfl, ⟨x, fun z => by subst z; exact g1 (R.dis j i _ _ b g2 e rfl rfl k1 h1)⟩, ws, l1, toK l2⟩
  · rcases of_set e1 with ⟨_, g⟩ | ⟨_, g⟩
    · cases g; cases o1
    · rcases of_set e2 with ⟨_, g'⟩ | ⟨_, g'⟩
      · cases g'; cases o2
      · exact R.dis j k y y' b g g' o1 o2 s1 s2
  · rcases of_set e with ⟨_, g⟩ | ⟨_, g⟩
    · cases g; cases o
    · exact R.ofr j y b g o s
theorem Rep.frzK (R : Rep W B Ex H σ ρ ω) {ds : List (Key × D)} (e : ρ[i]? = some (some (.odc ds))) : ∃ Ex', Rep W B Ex' H σ (ρ.set i (some (.d (.dic ds)))) ω ∧ Stp Ex H Ex' H := by
  obtain ⟨a, vs, h1, h2, nm, h3, h4, h5⟩ := R.odc e
  have to : ∀ {v d}, Dq H Ex v d → Dq H (fun b => Ex b ∧ b ≠ a) v d := fun q => q.to fun b o e n => ⟨e, fun m => n m.1⟩
  have toL : ∀ {v d}, DqL H Ex v d → DqL H (fun b => Ex b ∧ b ≠ a) v d := fun q => q.to fun b o e n => ⟨e, fun m => n m.1⟩
  have toK : ∀ {v d}, DqK H Ex v d → DqK H (fun b => Ex b ∧ b ≠ a) v d := fun q => q.to fun b o e n => ⟨e, fun m => n m.1⟩
  refine ⟨fun b => Ex b ∧ b ≠ a, ⟨W.le R.wo fun b h => .inl h.1, R.mu, fun b h => ⟨R.sub b h, fun z => by subst z; exact R.tr0 b h h3⟩, fun b h => R.out b h.1, R.tr0, fun b h => R.tr b h.1, R.kp, by rw [List.length_set]; exact R.len, fun j z ez => ?_, fun j k y y' b e1 e2 o1 o2 s1 s2 => ?_, fun j y b e o s => ?_⟩, ⟨fun b h => .inl h.1, fun _ _ h _ => h, fun _ h => h⟩⟩
  · rcases of_set ez with ⟨g1, g2⟩ | ⟨g1, g2⟩
    · subst g1
      cases g2
      exact ⟨_, h1, .dic h4 (fun m => m.2 rfl) (toK h5)⟩
    · obtain ⟨o, k1, k2⟩ := R.sl j z g2
      refine ⟨o, k1, ?_⟩
      cases o with
      | none => exact k2
      | some v =>
        cases z with
        | d d => exact to k2
        | own es =>
          obtain ⟨b, rfl, x, ws, l1, l2⟩ := k2
          exact ⟨b, rfl, ⟨x, fun z => by subst z; exact g1 (R.dis j i _ _ b g2 e rfl rfl k1 h1)⟩, ws, l1, toL l2⟩
        | odc es =>
          obtain ⟨b, rfl, x, ws, l1, l2⟩ := k2
          exact ⟨b, rfl, ⟨x, fun z => by subst z; exact g1 (R.dis j i _ _ b g2 e rfl rfl k1 h1)⟩, ws, l1, toK l2⟩
  · rcases of_set e1 with ⟨_, g⟩ | ⟨_, g⟩
    · cases g; cases o1
    · rcases of_set e2 with ⟨_, g'⟩ | ⟨_, g'⟩
      · cases g'; cases o2
      · exact R.dis j k y y' b g g' o1 o2 s1 s2
  · rcases of_set e with ⟨_, g⟩ | ⟨_, g⟩
    · cases g; cases o
    · exact R.ofr j y b g o s
end

/-! ## new lists and dicts -/
/-- behind an expression that makes a new list (dict) -/
def PostF (W : Wo) (Ex : Addr → Prop) (H : Hp) (Q : Sl → W.Om → Prop) : VK := fun v H' =>
  ∃ a z ω', v = .ref a ∧ H a = none ∧ Kp W H H' ∧ W.at (fun b => Ex b ∨ b = a) ω' H' ∧ isOwn z = true ∧ Own H' (fun b => Ex b ∨ b = a) a z ∧ Q z ω'
abbrev DFt (W : Wo) := Rho → W.Om → (Sl → W.Om → Prop) → Prop
structure DF (X : Cx) (W : Wo) (e : Expr) (t : DFt W) : Prop where
  ex : ∃ te, PE X e te ∧ ∀ (B : Bs) (Ex : Addr → Prop) (ρ : Rho) (ω : W.Om) (σ : List (Option V)) (H : Hp) (Q : Sl → W.Om → Prop) (Q' : V → Hp → Prop), Rep W B Ex H σ ρ ω → t ρ ω Q → (∀ v H', PostF W Ex H Q v H' → Q' v H') → te σ H Q'
section
variable {R S : RQ} {X : Cx} {W : Wo} {e a b : Expr} {es : List Expr} {pos : Pos} {te ta tb : DT W} {tl : DA W} {t : DTS W} {sts : List Stmt}
def fLst {W : Wo} (tl : DA W) : DFt W := fun ρ ω Q => tl ρ ω fun ds ω1 => ds.length ≤ sizeLine ∧ Q (.own ds) ω1
theorem df_lst (h : DL X W es tl) : DF X W (.List es pos) (fLst tl) := ⟨_, pe_lst h.pa, fun B Ex ρ ω σ H Q Q' rep q f => ⟨B, Ex, ρ, ω, _, rep, q, fun ds ω1 vs H1 ⟨l, q1⟩ k1 w1 z1 => ⟨by rw [z1.length]; exact l, fun p n => by
  refine f _ _ ⟨p, .own ds, ω1, rfl, ?_, k1.trans (Kp.same (same_upd n)), W.gr (W.le w1 fun b h => ?_) (same_upd n), rfl, ⟨.inr rfl, vs, upd_same, z1.to fun a o e x => ⟨same_upd n a o e, fun m => ?_⟩⟩, q1⟩
  · cases e : H p with
    | none => rfl
    | some o =>
      by_cases m : W.Mu p
      · exact absurd n (W.tk w1 m)
      · have := k1 p o e m; rw [n] at this; cases this
  · rcases h with h | h
    · exact .inl h
    · subst h; exact .inr n
  · rcases m with m | m
    · exact x m
    · subst m; rw [n] at e; cases e⟩⟩⟩
theorem Kp.back {W : Wo} {Ex : Addr → Prop} {ω : W.Om} {H H' : Hp} (k : Kp W H H') (w : W.at Ex ω H') {p : Addr} (n : H' p = none) : H p = none := by
  cases e : H p with
  | none => rfl
  | some o =>
    by_cases m : W.Mu p
    · exact absurd n (W.tk w m)
    · have := k p o e m; rw [n] at this; cases this
/-- list(x) -/
def fL1 {W : Wo} (g : D → Option (List D)) (ta : DT W) : DFt W := fun ρ ω Q => ta ρ ω fun x ω1 => ∃ ds, g x = some ds ∧ Q (.own ds) ω1
def lstG : D → Option (List D)
  | .lst xs => some xs
  | .tup xs => some xs
  | _ => none
theorem df_list [Stab R] {p : Pos} (hg : Gl X "list") (hm : X.mg "list" = none) (ha : DX R X W e ta) (he : starEach [e] X.env = (false, eval e X.env) :: starEach [] X.env := by rfl) (hpl : (backTo pos (starEach [] X.env)).any (·.1) = false := by rfl) :
    DF X W (.Call (.Name "list" p) [e] [] pos) (fL1 lstG ta) :=
  ⟨_, pe_callTy call_list_of hg hm (by decide +kernel) (pa_cons ha.pe pa_nil he) (by decide) (by decide) he hpl, fun B Ex ρ ω σ H Q Q' rep q f => ⟨B, Ex, ρ, ω, _, rep, q, fun d ω1 v H1 ⟨ds, e, q1⟩ k1 w1 z1 => by
    have z := Stab.bq z1
    have : ∃ p vs, v = .ref p ∧ (SqL X.K H1 p vs ∨ SqT X.K H1 p vs) ∧ DqL H1 Ex vs ds := by
      unfold lstG at e
      split at e
      · cases e
        obtain ⟨p, vs, e1, h1, h2⟩ := z.ofL
        exact ⟨p, vs, e1, .inl (SqL.of h1), h2⟩
      · cases e
        obtain ⟨p, vs, e1, h1, _, h2⟩ := z.ofT
        exact ⟨p, vs, e1, .inr (SqT.of h1), h2⟩
      · cases e
    obtain ⟨p, vs, rfl, h1, h2⟩ := this
    refine ⟨p, vs, rfl, h1, fun l n => f _ _ ⟨l, .own ds, ω1, rfl, k1.back w1 n, k1.trans (Kp.same (same_upd n)), W.gr (W.le w1 fun b h => ?_) (same_upd n), rfl, ⟨.inr rfl, vs, upd_same, h2.to fun a o e x => ⟨same_upd n a o e, fun m => ?_⟩⟩, q1⟩⟩
    · rcases h with h | h
      · exact .inl h
      · subst h; exact .inr n
    · rcases m with m | m
      · exact x m
      · subst m; rw [n] at e; cases e⟩⟩
/-- x + y, lists -/
def fAdd {W : Wo} (ta tb : DT W) : DFt W := fun ρ ω Q => ta ρ ω fun x ω1 => tb ρ ω1 fun y ω2 => ∃ xs ys, x = .lst xs ∧ y = .lst ys ∧ xs.length + ys.length ≤ sizeLine ∧ Q (.own (xs ++ ys)) ω2
theorem df_add [Stab R] [Stab S] (ha : DX R X W a ta) (hb : DX S X W b tb) : DF X W (.BinOp a .Add b pos) (fAdd ta tb) :=
  ⟨_, pe_op op_cat ha.pe hb.pe, fun B Ex ρ ω σ H Q Q' rep q f => two rep q fun x y dx dy H2 ω2 k rp zx zy ⟨xs, ys, e1, e2, l, q2⟩ => by
    subst e1
    subst e2
    obtain ⟨p, vs, rfl, h1, h2⟩ := (Stab.bq zx).ofL
    obtain ⟨p2, vs2, rfl, g1, g2⟩ := (Stab.bq zy).ofL
    refine ⟨p, p2, vs, vs2, rfl, rfl, h1, g1, by rw [h2.length, g2.length]; exact l, fun l n => f _ _ ⟨l, .own (xs ++ ys), ω2, rfl, k.back rp.wo n, k.trans (Kp.same (same_upd n)), W.gr (W.le rp.wo fun b h => ?_) (same_upd n), rfl, ⟨.inr rfl, vs ++ vs2, upd_same, (h2.append g2).to fun a o e x => ⟨same_upd n a o e, fun m => ?_⟩⟩, q2⟩⟩
    · rcases h with h | h
      · exact .inl h
      · subst h; exact .inr n
    · rcases m with m | m
      · exact x m
      · subst m; rw [n] at e; cases e⟩
/-- [e for x in xs if t] -/
def fLc {W : Wo} (ti : DIt W) (vs : List Nat) (f : D → Rho → Option Rho) (tt : DB W) (te : DT W) : DFt W := fun ρ ω Q => ti ρ ω fun items ω1 => lcW f tt te (wipeD ρ vs) items [] ω1 fun d ω2 => ∃ ds, d = .lst ds ∧ Q (.own ds) ω2
/-- {} -/
def fD0 {W : Wo} : DFt W := fun _ ω Q => Q (.odc []) ω
theorem df_d0 : DF X W (.Dict [] [] pos) fD0 := ⟨_, pe_dnewK, fun B Ex ρ ω σ H Q Q' rep q f p n => by
  refine f _ _ ⟨p, .odc [], ω, rfl, n, Kp.same (same_upd n), W.gr (W.le rep.wo fun b h => ?_) (same_upd n), rfl, ⟨.inr rfl, [], upd_same, .nil⟩, q⟩
  rcases h with h | h
  · exact .inl h
  · subst h; exact .inr n⟩
/-- x = a new list -/
def dOwn {W : Wo} (i : Nat) (t : DFt W) : DTS W := fun D0 ρ ω => t ρ ω fun z ω' => D0.nx (ρ.set i (some z)) ω'
theorem own_end {B : Bs} {Ex : Addr → Prop} {ρ : Rho} {ω : W.Om} {σ : List (Option V)} {H : Hp} {D0 : DEnds W} {i : Nat} (rep : Rep W B Ex H σ ρ ω) {v : V} {H' : Hp} (h : PostF W Ex H (fun z ω' => D0.nx (ρ.set i (some z)) ω') v H') :
    Beh W B Ex H D0.nx (σ.set i (some v)) H' := by
  obtain ⟨a, z, ω', rfl, n, k, w, hz, ow, q⟩ := h
  have t : H' a ≠ none := by
    cases z with
    | d d => cases hz
    | own ds => obtain ⟨_, vs, e, _⟩ := ow; rw [e]; exact fun z => nomatch z
    | odc ds => obtain ⟨_, vs, e, _⟩ := ow; rw [e]; exact fun z => nomatch z
  have r := rep.shut n k w t
  exact ⟨_, _, ω', stp_shut rep n k w, r.setSl hz ow i (rep.out0 n) fun j y _ e o s => rep.noOwn n j y e o s, q⟩
theorem ds_own {tf : DFt W} {i : Nat} {x : Str} {p' : Pos} (hN : X.N.Nodup) (hi : X.N[i]? = some x) (hx : Loc X.env.scope x) (h : DF X W e tf) (hs : swapsWith e (some (.Name x p')) pos.line X.env = pure false := by rfl)
    (hf : X.fn x = true ∨ X.env.scope.names.lookup x = some .local := by first | exact .inl rfl | exact .inr rfl | assumption) : DS X W (.Assign [.Name x p'] e pos) (dOwn i tf) := by
  obtain ⟨te, h1, h2⟩ := h
  exact DS.of (ps_set hN hi hx h1 hs hf) fun B Ex ρ ω σ H D0 rep q => h2 B Ex ρ ω σ H _ _ rep q fun v H' z => own_end rep z
/-- x = [e for ..] on one line -/
theorem ds_ownLc {cl : Bool} {i : Nat} {y : Str} {py : Pos} {elt tg iter : Expr} {ifs : List Expr} {scope : Scope} {own : List (Str × Nat)} {spos : Pos} {ti : DIt W} {g : TG} {f : D → Rho → Option Rho} {tt : DB W} {te : DT W} (hc : X.calm = true) (hN : X.N.Nodup) (hy : X.N[i]? = some y) (hyl : X.env.scope.names.lookup y = some .local)
    (hsw : swapsWith (.ListComp elt [⟨tg, iter, ifs, 0⟩] scope pos) (some (.Name y py)) spos.line X.env = pure true) (hi : DI cl X W tg iter ti) (ok : BlkOk X.N X.env.scope scope own)
    (G : Gf g (own.map (·.2)) f) (hg : ∀ (s : Shared) (H : Hp) (C : Addr) (cl : List (Str × Addr)) (fp : List Addr), PG (X.blk s H scope (compEnvC scope cl C X.env) fp) tg g)
    (ht : ∃ tt', (∀ (s : Shared) (H : Hp) (C : Addr) (cl : List (Str × Addr)) (fp : List Addr), PTs (X.blk s H scope (compEnvC scope cl C X.env) fp) ifs tt') ∧
      ∀ (B : Bs) (Ex : Addr → Prop) (ρ : Rho) (ω : W.Om) (σ : List (Option V)) (H : Hp) (Q : Bool → W.Om → Prop) (Q' : Bool → Hp → Prop), Rep W B Ex H σ ρ ω → tt ρ ω Q → (∀ b ω' H', Q b ω' → Kp W H H' → W.at Ex ω' H' → Q' b H') → tt' σ H Q')
    (he : ∀ (s : Shared) (H : Hp) (C : Addr) (cl : List (Str × Addr)) (fp : List Addr), DE (X.blk s H scope (compEnvC scope cl C X.env) fp) W elt te) (hs : ∀ x, foldedSetIterable iter X.env x = pure x := by intro _; rfl) :
    DS X W (.Assign [.Name y py] (.ListComp elt [⟨tg, iter, ifs, 0⟩] scope pos) spos) (dOwn i (fLc ti (own.map (·.2)) f tt te)) := by
  obtain ⟨wi, h1, h2⟩ := hi
  obtain ⟨tt', t1, t2⟩ := ht
  refine DS.of (ps_setLc hc hN hy hyl hsw h1 ok hg t1 (fun s H C cl fp => (he s H C cl fp).pe) hs) fun B Ex ρ ω σ H D0 rep q => h2 B Ex ρ ω σ H _ _ rep q fun items ω1 J H1 S q1 k1 w1 hm _ wk D hD => ?_
  refine lc_run rep k1 w1 hm wk hD G t2 (fun B Ex ρ ω σ H Q Q' rep q f => ⟨B, Ex, ρ, ω, Q, rep, q, f⟩) q1 fun acc ds ω' H' ⟨ds', e, q'⟩ k' w' hd dl => ?_
  cases e
  exact own_end rep ⟨D, .own ds, ω', rfl, k1.back w1 hD, k', w', rfl, ⟨.inr rfl, acc, hd, dl⟩, q'⟩
/-- x.append(e) -/
def dApp {W : Wo} (i : Nat) (te : DT W) : DTS W := fun D0 ρ ω => ∃ ds, ρ[i]? = some (some (.own ds)) ∧ te ρ ω fun d ω' => ds.length < sizeLine ∧ D0.nx (ρ.set i (some (.own (ds ++ [d])))) ω'
theorem ds_app {i : Nat} {x : Str} {px pa pc : Pos} (hN : X.N[i]? = some x) (hv : Vis X.env.scope x) (h : DE X W e te) (hd : (x == ("__debug__" : Str)) = false := by decide) (hcd : (x == ("__classdict__" : Str)) = false := by decide)
    (hbase : attributeBase (.Name x px) "append" X.env (eval (.Name x px) X.env) = eval (.Name x px) X.env := by rfl)
    (hfew : ((backTo pc (starEach [e] X.env)).all (fun x => !x.1) && (backToKw pc (keywordEach [] X.env)).all (fun x => x.1.isSome) && decide ([e].length + ([] : List Keyword).length + (if ([] : List Keyword).isEmpty then 0 else 1) < 30)) = true := by rfl)
    (hline : (pa.endLine == pc.line) = true := by rfl) (hs : starEach [e] X.env = (false, eval e X.env) :: starEach [] X.env := by rfl) (hplain : (backTo pc (starEach [] X.env)).any (·.1) = false := by rfl)
    (hsw : swapsWith (.Call (.Attribute (.Name x px) "append" pa) [e] [] pc) none pos.line X.env = pure false := by rfl) :
    DS X W (.Expr (.Call (.Attribute (.Name x px) "append" pa) [e] [] pc) pos) (dApp i te) := by
  refine DS.of (ps_expr (pe_bm PySem.F.plainAttrs_list PySem.F.slot_list_append PySem.F.type_list_append mt_append (pe_var (i := i) hN hv hd hcd) (pa_cons h.pe pa_nil hs) hbase hfew hline hs hplain) hsw) fun B Ex ρ ω σ H D0 rep ⟨ds, e1, q⟩ => ?_
  obtain ⟨a, vs, g1, g2, nm, g3, g4, g5⟩ := rep.own e1
  refine ⟨_, g1, .inl ⟨rfl, vs, SqL.of g4⟩, B, Ex, ρ, ω, _, rep, q, fun d ω' v H' ⟨l, q'⟩ k w z => ?_⟩
  have r := rep.go k w
  obtain ⟨a', vs', g1', g2', _, _, g4', g5'⟩ := r.own e1
  rw [g1] at g1'
  cases g1'
  refine ⟨a, vs', v, rfl, rfl, g4', by rw [g5'.length]; exact l, ?_⟩
  have ne : ∀ b, ¬ Ex b → b ≠ a := fun b n e => n (e ▸ g2)
  obtain ⟨r2, s2⟩ := r.ownUpd (o := .lst (vs' ++ [v])) (y := .own (ds ++ [d])) e1 rfl g1 rfl g2 ⟨g2, _, upd_same, (g5'.append (.cons z .nil)).to fun b o e n => ⟨by rw [upd_ne (ne b n)]; exact e, n⟩⟩
  exact ⟨Ex, _, ω', (rep.stp k w).trans s2, r2, q'⟩
/-- from now on it is data -/
def dFrz {W : Wo} (i : Nat) (t : DTS W) : DTS W := fun D0 ρ ω => (∃ ds, ρ[i]? = some (some (.own ds)) ∧ t D0 (ρ.set i (some (.d (.lst ds)))) ω) ∨ ∃ ds, ρ[i]? = some (some (.odc ds)) ∧ t D0 (ρ.set i (some (.d (.dic ds)))) ω
theorem dss_frz (i : Nat) (h : DSs X W sts t) : DSs X W sts (dFrz i t) := ⟨fun pins s σ H B Ex ρ ω D0 I rep q => by
  rcases q with ⟨ds, e, q⟩ | ⟨ds, e, q⟩
  · obtain ⟨Ex', r, s'⟩ := rep.frz e
    exact thn (h.run pins s σ H B Ex' _ ω D0 I r q) fun f s2 z => SP.le (ends_le s') z
  · obtain ⟨Ex', r, s'⟩ := rep.frzK e
    exact thn (h.run pins s σ H B Ex' _ ω D0 I r q) fun f s2 z => SP.le (ends_le s') z⟩
/-- a name is forgotten -/
theorem ds_frz {st : Stmt} (i : Nat) (h : DS X W st t) : DS X W st (dFrz i t) := ⟨fun pins s σ H B Ex ρ ω D0 I rep q => by
  rcases q with ⟨ds, e, q⟩ | ⟨ds, e, q⟩
  · obtain ⟨Ex', r, s'⟩ := rep.frz e
    exact thn (h.run pins s σ H B Ex' _ ω D0 I r q) fun f s2 z => SP.le (ends_le s') z
  · obtain ⟨Ex', r, s'⟩ := rep.frzK e
    exact thn (h.run pins s σ H B Ex' _ ω D0 I r q) fun f s2 z => SP.le (ends_le s') z⟩
/-- a, b = e1, e2 -/
def dPar {W : Wo} (i j : Nat) (ta tb : DT W) : DTS W := fun D0 ρ ω => ta ρ ω fun x ω1 => tb ρ ω1 fun y ω2 => D0.nx ((ρ.set i (some (.d x))).set j (some (.d y))) ω2
theorem ds_par {i j : Nat} {x y : Str} {px py pt : Pos} {kt k2 pt2} (hc : X.calm = true) (hN : X.N.Nodup) (hi : X.N[i]? = some x) (hj : X.N[j]? = some y) (hij : i ≠ j)
    (hx : X.env.scope.names.lookup x = some .local) (hy : X.env.scope.names.lookup y = some .local) (ha : DE X W a ta) (hb : DE X W b tb)
    (hw : swappedStores [.Tuple [.Name x px, .Name y py] kt pt] (.Tuple [a, b] k2 pt2) X.env = pure (some [x, y])) (he : starEach [a, b] X.env = (false, eval a X.env) :: starEach [b] X.env := by rfl) (he2 : starEach [b] X.env = (false, eval b X.env) :: starEach [] X.env := by rfl)
    (hs : swapsWithSole [.Tuple [.Name x px, .Name y py] kt pt] (.Tuple [a, b] k2 pt2) pos.line X.env = pure false := by rfl) :
    DS X W (.Assign [.Tuple [.Name x px, .Name y py] kt pt] (.Tuple [a, b] k2 pt2) pos) (dPar i j ta tb) :=
  DS.of (ps_par hc hN hi hj hij hx hy (pa_cons ha.pe (pa_cons hb.pe pa_nil he2) he) hw hs) fun B Ex ρ ω σ H D0 rep q => two rep q fun x y dx dy H2 ω2 k rp zx zy q2 =>
    ⟨x, y, rfl, Ex, _, ω2, rep.stp k rp.wo, (rp.set zx i).set zy j, q2⟩
/-- target = e -/
def dAsg {W : Wo} (f : D → Rho → Option Rho) (te : DT W) : DTS W := fun D0 ρ ω => te ρ ω fun d ω' => ∃ ρ', f d ρ = some ρ' ∧ D0.nx ρ' ω'
theorem ds_asg {tg : Expr} {g : TG} {f : D → Rho → Option Rho} {vs : List Nat} (G : Gf g vs f) (hg : PG X tg g) (h : DE X W e te) (hs : swapsWithSole [tg] e pos.line X.env = pure false := by rfl) (hw : swappedStores [tg] e X.env = pure none := by rfl)
    (h1 : (assignEach [tg] X.env).map (·.2) = [assign tg X.env] := by rfl) : DS X W (.Assign [tg] e pos) (dAsg f te) :=
  DS.of (ps_asg h.pe hg hs hw h1) fun B Ex ρ ω σ H D0 rep q => ⟨B, Ex, ρ, ω, _, rep, q, fun d ω' v H' ⟨ρ', e, q'⟩ k w z => G.run (rep.go k w) z e fun σ' r _ => ⟨Ex, ρ', ω', rep.stp k w, r, q'⟩⟩
/-- for -/
def forW {W : Wo} (f : D → Rho → Option Rho) (tb : DTS W) (D0 : DEnds W) : List D → Rho → W.Om → Prop
  | [], ρ, ω => D0.nx ρ ω
  | x :: xs, ρ, ω => ∃ ρ', f x ρ = some ρ' ∧ tb { D0 with nx := forW f tb D0 xs, ct := forW f tb D0 xs, bk := D0.nx } ρ' ω
def dFor {W : Wo} (ti : DIt W) (f : D → Rho → Option Rho) (tb : DTS W) : DTS W := fun D0 ρ ω => ti ρ ω fun items ω1 => forW f tb D0 items ρ ω1
theorem ds_for {tg iter : Expr} {body : List Stmt} {ti : DIt W} {g : TG} {f : D → Rho → Option Rho} {vs : List Nat} {tb : DTS W} (hp : PassesOwn (model X.prog X.w) X.A X.env X.xe) (hc : X.calm = true) (hi : DI true X W tg iter ti) (G : Gf g vs f) (hg : PG X tg g) (hb : DSs X W body tb)
    (hs : ∀ x, foldedSetIterable iter X.env x = pure x := by intro _; rfl) : DS X W (.For tg iter body [] pos) (dFor ti f tb) := by
  obtain ⟨wi, h1, h2⟩ := hi
  refine DS.of (ps_for hp hc h1 hg hb.pss hs) fun B Ex ρ ω σ H D0 rep q => h2 B Ex ρ ω σ H _ _ rep q fun items ω1 J H1 S q1 k1 w1 hm hcl wk => ?_
  have r1 := rep.go k1 w1
  have agr : ∀ {Ex' H'}, Stp Ex H1 Ex' H' → Agr S H1 H' := fun s b o e sb => s.kp b o e (hcl rfl b sb)
  refine ⟨fun i m σ' H' => m = items.length - i ∧ i ≤ items.length ∧ ∃ Ex' ρ' ω', Stp Ex H1 Ex' H' ∧ Rep W B Ex' H' σ' ρ' ω' ∧ forW f tb D0 (items.drop i) ρ' ω', ⟨items.length, by simp, Nat.zero_le _, Ex, ρ, ω1, Stp.refl, r1, by simpa using q1⟩, ?_⟩
  rintro i m σ2 H2 ⟨rfl, hi, Ex2, ρ2, ω2, s2, r2, q2⟩
  by_cases hlt : i < items.length
  · refine .inr ⟨wk.goes i H2 hlt (agr s2), fun σ' H' => ∃ Ex' ρ' ω', Stp Ex H1 Ex' H' ∧ Rep W B Ex' H' σ' ρ' ω' ∧ forW f tb D0 (items.drop (i + 1)) ρ' ω', fun σ' H' p => ⟨_, by omega, rfl, hlt, p⟩, fun x H3 y => ?_⟩
    obtain ⟨sm, d, hd, dq⟩ := wk.yields i H2 x H3 Ex2 hlt (agr s2) r2.tr s2.out y
    have r3 := r2.grow sm
    have s3 : Stp Ex H1 Ex2 H3 := s2.trans (r2.stp (Kp.same sm) r3.wo)
    have ed : items.drop i = d :: items.drop (i + 1) := by
      rw [List.drop_eq_getElem_cons hlt]
      have : items[i] = d := by
        rw [List.getElem?_eq_getElem hlt] at hd
        exact Option.some.inj hd
      rw [this]
    rw [ed] at q2
    obtain ⟨ρ', ef, q3⟩ := q2
    refine G.run r3 dq ef fun σ' rs _ => ?_
    refine ⟨B, Ex2, ρ', ω2, _, rs, q3, ⟨fun σ4 H4 ⟨E4, ρ4, ω4, a, b, c⟩ => ⟨E4, ρ4, ω4, s3.trans a, b, c⟩, fun v H4 z => z, fun σ4 H4 ⟨E4, ρ4, ω4, a, b, c⟩ => ⟨E4, ρ4, ω4, (rep.stp k1 w1).trans (s3.trans a), b, c⟩, fun σ4 H4 ⟨E4, ρ4, ω4, a, b, c⟩ => ⟨E4, ρ4, ω4, s3.trans a, b, c⟩⟩⟩
  · have e : i = items.length := by omega
    subst e
    have e0 : items.drop items.length = [] := List.drop_length
    rw [e0] at q2
    exact .inl ⟨wk.stops H2 (agr s2), Ex2, ρ2, ω2, (rep.stp k1 w1).trans s2, r2, q2⟩
end

/-! ## a def -/
def startD (N : List Str) (ds : List D) : Rho := ds.map (fun d => some (.d d)) ++ List.replicate (N.length - ds.length) none
theorem rep_start {W : Wo} {N : List Str} {Ex : Addr → Prop} {H : Hp} {vs : List V} {ds : List D} {ω : W.Om} (w : W.at Ex ω H) (mu : ∀ a, W.Mu a → Ex a) (tr : ∀ a, Ex a → H a ≠ none) (q : DqL H Ex vs ds) : Rep W ⟨H, Ex⟩ Ex H (L2.start N vs) (startD N ds) ω where
  wo := w
  mu := mu
  sub := fun _ h => h
  out := fun _ h => .inl h
  tr0 := tr
  tr := tr
  kp := Kp.refl
  len := by unfold L2.start startD; simp [q.length]
  sl := fun i z e => by
    unfold startD at e
    have hi : i < ds.length := by
      by_cases hi : i < ds.length
      · exact hi
      · rw [List.getElem?_append_right (by simpa using hi), List.getElem?_replicate] at e
        split at e <;> cases e
    rw [List.getElem?_append_left (by simpa using hi), List.getElem?_map] at e
    cases ed : ds[i]? with
    | none => rw [ed] at e; cases e
    | some d =>
      rw [ed] at e
      cases e
      obtain ⟨v, h1, h2⟩ := q.get ed
      refine ⟨some v, ?_, h2⟩
      unfold L2.start
      rw [List.getElem?_append_left (by rw [List.length_map, q.length]; exact hi), List.getElem?_map, h1]
      rfl
  dis := fun i j z y a e1 e2 o1 o2 s1 s2 => by
    unfold startD at e1
    by_cases hi : i < ds.length
    · rw [List.getElem?_append_left (by simpa using hi), List.getElem?_map] at e1
      cases ed : ds[i]? with
      | none => rw [ed] at e1; cases e1
      | some d => rw [ed] at e1; cases e1; cases o1
    · rw [List.getElem?_append_right (by simpa using hi), List.getElem?_replicate] at e1
      split at e1 <;> cases e1
  ofr := fun i z a e1 o1 s1 => by
    unfold startD at e1
    by_cases hi : i < ds.length
    · rw [List.getElem?_append_left (by simpa using hi), List.getElem?_map] at e1
      cases ed : ds[i]? with
      | none => rw [ed] at e1; cases e1
      | some d => rw [ed] at e1; cases e1; cases o1
    · rw [List.getElem?_append_right (by simpa using hi), List.getElem?_replicate] at e1
      split at e1 <;> cases e1
/-- a def of the text, by its body read over data -/
theorem okD {P : Program} {w : World} {K : PySem.W.Frag} {mg : Str → Option Value} {base : Heap} {W : Wo} {x qual : Str} {st : Stmt} {f : Addr} {fd : FuncData} {N ps : List Str} {k : Nat} {S : Spd W} (F : Fun K x qual st f fd) (C : FnScope N ps (defScope st))
    (len : ∀ ds ω Q, S ds ω Q → ds.length = ps.length)
    (hbody : ∀ (cdv : Value) (A : Around) (outer : List Env) (s : Shared) (H : Hp) (E : XK) (ds : List D) (ω : W.Om) (Q : D → W.Om → Prop), Gd A → Room k (A.deeper (envOfC qual (defScope st) s.heap.objs.size f cdv)) → S ds ω Q →
      ∃ t, DSs (cxOf CX0 P w K mg base N qual (defScope st) f cdv A outer s H E).nox W (defBody st) t ∧ t { nx := fun _ ω' => Q .non ω', rt := Q } (startD N ds) ω) :
    FnG P w K mg base CX0 (k + 1) f fd ps (spOf W S) := by
  refine okG F C (fun vs H Q E ⟨Ex, ω, ds, Q0, _, _, _, q, h, _⟩ => by rw [q.length]; exact len _ _ _ h) fun cdv A outer s H vs Q E g hr ⟨Ex, ω, ds, Q0, wo, mu, tr, q, h, fin⟩ => ?_
  obtain ⟨t, h1, h2⟩ := hbody cdv A outer s H E ds ω Q0 g hr h
  refine ⟨_, h1.pss, ⟨H, Ex⟩, Ex, _, ω, _, rep_start wo mu tr q, h2, ⟨fun σ' H' ⟨Ex', ρ', ω', s, r, z⟩ => ?_, fun v H' ⟨d, ω', k, w, z, q'⟩ => fin d ω' v H' q' k w z, fun σ' H' ⟨_, _, _, _, _, z⟩ => z.elim, fun σ' H' ⟨_, _, _, _, _, z⟩ => z.elim⟩⟩
  exact fin .non ω' .non H' z r.kp (W.le r.wo fun b m => .inl (r.sub b m)) .non
end Tk

namespace Tk
open PySem PySem.Spec PyProof.Rows L2

/-! ## text * number -/
theorem mulOk_small {x : Str} {n : Int} (h1 : 1 ≤ n) (h2 : n ≤ 1000) (h3 : x.length ≤ 1000) : MulOk x n := by
  refine ⟨by rw [decide_eq_false (by omega), decide_eq_false (by omega)]; rfl, fun _ _ h => ?_, fun _ _ => ?_⟩
  · have h4 : (1000 : Int) ≤ (2 ^ 63 - 1) / n := by
      refine (Int.le_ediv_iff_mul_le (by omega)).mpr ?_
      omega
    omega
  · unfold Builtin.Str.tooLong
    have h5 : x.length * n.toNat ≤ 1000 * 1000 := Nat.mul_le_mul h3 (by omega)
    simp [sizeLine_eq]
    omega
def mulD2 : D → D → Option D
  | .str x, .int n => if 1 ≤ n ∧ n ≤ 1000 ∧ x.length ≤ 1000 then some (.str (Txt.mul x n)) else none
  | x, y => mulD x y
section
variable {X : Cx} {W : Wo}
theorem op_mul_str : OpR X (binaryOp .Mult) (fun x y H Q => ∃ z n, x = .str z ∧ y = .int n ∧ (1 ≤ n ∧ n ≤ 1000 ∧ z.length ≤ 1000) ∧ Q (.str (Txt.mul z n)) H) := by
  intro pins s σ H x y v u Q I rx ry h
  obtain ⟨z, n, rfl, rfl, ⟨h1, h2, h3⟩, q⟩ := h
  obtain ⟨t, rfl⟩ := rx
  obtain ⟨t', rfl⟩ := ry
  exact SB.mul (mulOk_small h1 h2 h3) fun t'' k => ⟨.str _, H, I.tok _, ⟨_, rfl⟩, q⟩
theorem o_mul2 : Op2 X W (binaryOp .Mult) mulD2 := by
  obtain ⟨r, h1, h2⟩ := (o_mul : Op2 X W (binaryOp .Mult) mulD)
  refine ⟨_, op_mul_str.or h1, ?_⟩
  intro H Ex x y dx dy z Q tr hx hy e k
  unfold mulD2 at e
  split at e
  · split at e
    · cases e; exact .inl ⟨_, _, hx.ofS, hy.ofI, by assumption, k _ _ (Same.refl H) (.str _)⟩
    · cases e
  · exact .inr (h2 tr hx hy e k)
end
/-! ## dict displays -/
section
variable {X : Cx} {W : Wo} {pos : Pos} {e v : Expr} {te : DT W} {tl : DA W}
/-- {}, as data -/
def dD0 {W : Wo} : DT W := fun _ ω Q => Q (.dic []) ω
theorem de_d0 : DE X W (.Dict [] [] pos) dD0 := DX.of pe_dnewK fun B Ex ρ ω σ H Q rep q p n =>
  ⟨_, ω, Kp.same (same_upd n), W.gr rep.wo (same_upd n), .dic upd_same (rep.new n) .nil, q⟩
/-- the pairs of a display with written texts as keys -/
structure DPs (X : Cx) (W : Wo) (pos : Pos) (keys : List (Option Expr)) (values : List Expr) (ks : List Str) (t : DA W) : Prop where
  ex : ∃ trs, PPs X pos keys values trs ∧ ∀ (B : Bs) (Ex : Addr → Prop) (ρ : Rho) (ω : W.Om) (σ : List (Option V)) (H : Hp) (Q : List D → W.Om → Prop) (Q' : List (V × V) → Hp → Prop), Rep W B Ex H σ ρ ω → t ρ ω Q →
    (∀ ds ω' vs H', Q ds ω' → Kp W H H' → W.at Ex ω' H' → DqL H' Ex vs ds → vs.length = ks.length → Q' ((ks.map V.str).zip vs) H') → tPairs trs σ H Q'
theorem dps_nil : DPs X W pos [] [] [] dNil := ⟨_, pps_nil, fun B Ex ρ ω σ H Q Q' rep q f => f [] ω [] H q Kp.refl rep.wo .nil rfl⟩
theorem dps_cons {k : Str} {j : Nat} {kp : Pos} {keys : List (Option Expr)} {values : List Expr} {ks : List Str} (h : DE X W v te) (h2 : DPs X W pos keys values ks tl) : DPs X W pos (some (.Constant (.str k) j kp) :: keys) (v :: values) (k :: ks) (dCons te tl) := by
  obtain ⟨trs, p1, p2⟩ := h2
  refine ⟨_, pps_cons pe_str h.pe p1, fun B Ex ρ ω σ H Q Q' rep q f => ?_⟩
  refine ⟨B, Ex, ρ, ω, _, rep, q, fun d ω1 v H1 q1 k1 w1 z1 => p2 B Ex ρ ω1 σ H1 _ _ (rep.go k1 w1) q1 fun ds ω2 vs H2 q2 k2 w2 z2 hl => ?_⟩
  exact f (d :: ds) ω2 (v :: vs) H2 q2 (k1.trans k2) w2 (.cons ((rep.go k1 w1).keep k2 z1) z2) (congrArg Nat.succ hl)
def mkD (ks : List Str) (ds : List D) : List (Key × D) := (ks.zip ds).map fun p => (Sum.inr p.1, p.2)
theorem merge_app : ∀ (more acc : List (Key × V)), ((acc ++ more).map (·.1)).Nodup → mergeK acc more = acc ++ more
  | [], acc, _ => by rw [List.append_nil]; rfl
  | kv :: more, acc, h => by
    have hn : valV acc kv.1 = none := by
      have h1 : kv.1 ∉ acc.map (·.1) := by
        rw [List.map_append, List.nodup_append] at h
        intro m
        exact h.2.2 _ m _ (List.mem_cons_self ..) rfl
      have h2 : (acc.any fun q => decide (q.1 = kv.1)) = false := by
        rw [List.any_eq_false]
        intro q hq
        simp only [decide_eq_true_eq]
        intro e
        exact h1 (List.mem_map.mpr ⟨q, hq, e⟩)
      rw [valV_any] at h2
      cases z : valV acc kv.1 with
      | none => rfl
      | some y => rw [z] at h2; cases h2
    have e : mergeK acc (kv :: more) = mergeK (putK acc kv.1 kv.2) more := rfl
    rw [e, putK_new _ hn, merge_app more (acc ++ [(kv.1, kv.2)]) (by simpa using h)]
    simp
theorem dqk_mk {H : Hp} {Ex : Addr → Prop} : ∀ (ks : List Str) {vs : List V} {ds : List D}, DqL H Ex vs ds → DqK H Ex ((ks.zip vs).map fun p => ((Sum.inr p.1 : Key), p.2)) (mkD ks ds)
  | [], _, _, _ => .nil
  | _ :: _, _, _, .nil => .nil
  | k :: ks, _, _, .cons h t => .cons h (dqk_mk ks t)
theorem zip_keys : ∀ (ks : List Str) (vs : List V), (((ks.zip vs).map fun q => ((Sum.inr q.1 : Key), q.2)).map fun kv => (kV kv.1, kv.2)) = (ks.map V.str).zip vs
  | [], _ => rfl
  | _ :: _, [] => rfl
  | k :: ks, v :: vs => congrArg _ (zip_keys ks vs)
theorem nodup_inr : ∀ {ks : List Str}, ks.Nodup → (ks.map (Sum.inr : Str → Key)).Nodup
  | [], _ => List.nodup_nil
  | k :: ks, h => by
    rw [List.nodup_cons] at h
    rw [List.map_cons, List.nodup_cons]
    refine ⟨fun m => ?_, nodup_inr h.2⟩
    obtain ⟨x, hx, e⟩ := List.mem_map.mp m
    cases e
    exact h.1 hx
def dDisp {W : Wo} (ks : List Str) (tl : DA W) : DT W := fun ρ ω Q => tl ρ ω fun ds ω' => Q (.dic (mkD ks ds)) ω'
theorem de_disp {keys : List (Option Expr)} {values : List Expr} {ks : List Str} (h : DPs X W pos keys values ks tl) (hn : ks.Nodup) (hall : keys.all (·.isSome) = true) (hl : keys.length = values.length) (h0 : keys ≠ []) (h15 : keys.length ≤ 15) (hk : ks.length ≤ 15 := by decide) :
    DE X W (.Dict keys values pos) (dDisp ks tl) := by
  obtain ⟨trs, p1, p2⟩ := h
  refine DX.of (pe_disp p1 hall hl h0 h15) fun B Ex ρ ω σ H Q rep q p n => ?_
  have nE : ¬ Ex p := rep.new n
  have rp := rep.alloc n (.dK [])
  refine p2 B _ ρ ω σ _ _ _ rp q fun ds ω' vs H' q' k w z hlen => ?_
  have nMu : ¬ W.Mu p := fun m => W.tk rep.wo m n
  have hp : H' p = some (.dK []) := k p _ upd_same nMu
  refine ⟨hp, (ks.zip vs).map fun q => ((Sum.inr q.1 : Key), q.2), ?_, ?_, ?_⟩
  · exact (zip_keys ks vs).symm
  · rw [List.length_map, List.length_zip]
    omega
  · have em : mergeK [] ((ks.zip vs).map fun q => ((Sum.inr q.1 : Key), q.2)) = (ks.zip vs).map fun q => ((Sum.inr q.1 : Key), q.2) := by
      rw [merge_app]
      · rfl
      · rw [List.nil_append, List.map_map]
        have e1 : ((ks.zip vs).map (Prod.fst ∘ fun q => ((Sum.inr q.1 : Key), q.2))) = ks.map Sum.inr := by
          have : (Prod.fst ∘ fun q : Str × V => ((Sum.inr q.1 : Key), q.2)) = Sum.inr ∘ Prod.fst := rfl
          rw [this, ← List.map_map, List.map_fst_zip (by omega)]
        rw [e1]
        exact nodup_inr hn
    rw [em]
    have r2 := rp.go k w
    have ne : ∀ a, ¬ (Ex a ∨ a = p) → a ≠ p := fun a x e => x (.inr e)
    have k2 : Kp W H (upd H' p (.dK ((ks.zip vs).map fun q => ((Sum.inr q.1 : Key), q.2)))) := fun b o e m => by
      rw [upd_ne (ne_of_none e n)]
      exact k b o (same_upd n b o e) m
    have w2 : W.at (fun b => Ex b ∨ b = p) ω' (upd H' p (.dK ((ks.zip vs).map fun q => ((Sum.inr q.1 : Key), q.2)))) := W.grow w fun b o e m => by
      have : b ≠ p := fun e => m ⟨.inr e, by subst e; exact nMu⟩
      rw [upd_ne this]
      exact e
    exact ⟨_, ω', k2, W.le w2 fun b m => .inl (.inl m), .dic upd_same nE (dqk_mk ks (z.to fun a o e x => ⟨by rw [upd_ne (ne a x)]; exact e, fun m => x (.inl m)⟩)), q'⟩
end
/-! ## comprehensions as data -/
section
variable {X : Cx} {W : Wo} {st : Stmt} {c : Expr} {t : DFt W} {tb : DB W}
def dLcS {W : Wo} (i : Nat) (t : DFt W) : DTS W := fun D0 ρ ω => t ρ ω fun z ω' => ∃ ds, z = .own ds ∧ i < ρ.length ∧ D0.nx (ρ.set i (some (.d (.lst ds)))) ω'
theorem ds_frzLc (i : Nat) (h : DS X W st (dOwn i t)) : DS X W st (dLcS i t) := ⟨fun pins s σ H B Ex ρ ω D0 I rep q => by
  refine thn (h.run pins s σ H B Ex ρ ω { D0 with nx := fun ρ' ω' => ∃ ds, ρ'[i]? = some (some (.own ds)) ∧ D0.nx (ρ'.set i (some (.d (.lst ds)))) ω' } I rep ?_) fun f s' z => ?_
  · show t ρ ω _
    have : (fun (z : Sl) (ω' : W.Om) => ∃ ds, z = .own ds ∧ i < ρ.length ∧ D0.nx (ρ.set i (some (.d (.lst ds)))) ω') = fun z ω' => ∃ ds, z = .own ds ∧ i < ρ.length ∧ D0.nx (ρ.set i (some (.d (.lst ds)))) ω' := rfl
    exact cast (congrArg (t ρ ω) (by
      funext z ω'
      apply propext
      constructor
      · rintro ⟨ds, rfl, hl, q⟩
        exact ⟨ds, by rw [List.getElem?_set_self hl], by rw [List.set_set]; exact q⟩
      · rintro ⟨ds, e, q⟩
        have hl : i < ρ.length := by
          by_cases hl : i < ρ.length
          · exact hl
          · rw [List.getElem?_eq_none (by simpa using hl)] at e
            cases e
        rw [List.getElem?_set_self hl] at e
        cases e
        rw [List.set_set] at q
        exact ⟨ds, rfl, hl, q⟩)) q
  · refine SP.le (E := ends W B Ex H { D0 with nx := fun ρ' ω' => ∃ ds, ρ'[i]? = some (some (.own ds)) ∧ D0.nx (ρ'.set i (some (.d (.lst ds)))) ω' }) (F := ends W B Ex H D0) (ELe.mk (fun σ' H' hh => ?_) (fun _ _ h => h) (fun _ _ h => h) (fun _ _ h => h)) z
    obtain ⟨Ex', ρ', ω', s1, r, ds, e, q⟩ := hh
    obtain ⟨Ex2, r2, s2⟩ := r.frz e
    exact ⟨Ex2, _, ω', s1.trans s2, r2, q⟩⟩
theorem ts_nil {sc : Scope} : ∃ tt', (∀ (s : Shared) (H : Hp) (C : Addr) (cl : List (Str × Addr)) (fp : List Addr), PTs (X.blk s H sc (compEnvC sc cl C X.env) fp) [] tt') ∧
      ∀ (B : Bs) (Ex : Addr → Prop) (ρ : Rho) (ω : W.Om) (σ : List (Option V)) (H : Hp) (Q : Bool → W.Om → Prop) (Q' : Bool → Hp → Prop), Rep W B Ex H σ ρ ω → dYes ρ ω Q → (∀ b ω' H', Q b ω' → Kp W H H' → W.at Ex ω' H' → Q' b H') → tt' σ H Q' :=
  ⟨_, fun _ _ _ _ _ => pts_nil, fun B Ex ρ ω σ H Q Q' rep q f => f true ω H q Kp.refl rep.wo⟩
theorem ts_one {sc : Scope} (h : ∀ (s : Shared) (H : Hp) (C : Addr) (cl : List (Str × Addr)) (fp : List Addr), DP (X.blk s H sc (compEnvC sc cl C X.env) fp) W c tb) : ∃ tt', (∀ (s : Shared) (H : Hp) (C : Addr) (cl : List (Str × Addr)) (fp : List Addr), PTs (X.blk s H sc (compEnvC sc cl C X.env) fp) [c] tt') ∧
      ∀ (B : Bs) (Ex : Addr → Prop) (ρ : Rho) (ω : W.Om) (σ : List (Option V)) (H : Hp) (Q : Bool → W.Om → Prop) (Q' : Bool → Hp → Prop), Rep W B Ex H σ ρ ω → tb ρ ω Q → (∀ b ω' H', Q b ω' → Kp W H H' → W.at Ex ω' H' → Q' b H') → tt' σ H Q' :=
  ⟨_, fun s H C cl fp => pts_one (h s H C cl fp).pt, fun B Ex ρ ω σ H Q Q' rep q f => ⟨B, Ex, ρ, ω, Q, rep, q, f⟩⟩
end
/-- a world that is found on the way -/
theorem pss_any {X : Cx} {sts : List Stmt} {ι : Type} {Wf : ι → Wo} {t : ∀ i, DTS (Wf i)} (h : ∀ i, DSs X (Wf i) sts (t i)) : PSs X sts (fun D σ H => ∃ i, tS (Wf i) (t i) D σ H) :=
  ⟨fun pins s σ H D I ⟨i, q⟩ => (h i).pss.run pins s σ H D I q⟩
/-! ## defs with defaults -/
theorem okDd {P : Program} {w : World} {K : PySem.W.Frag} {mg : Str → Option Value} {base : Heap} {W : Wo} {x qual : Str} {params : Arguments} {body : List Stmt} {scope : Scope} {dvs : List V} {kws : List (Str × V)} {f : Addr} {fd : FuncData} {N ps : List Str} {k : Nat} {S : Spd W}
    (F : FunD K x qual params body scope dvs kws f fd) (C : FnScope N ps scope) (len : ∀ ds ω Q, S ds ω Q → ds.length = ps.length)
    (hbody : ∀ (cdv : Value) (A : Around) (outer : List Env) (s : Shared) (H : Hp) (E : XK) (ds : List D) (ω : W.Om) (Q : D → W.Om → Prop), Gd A → Room k (A.deeper (envOfC qual scope s.heap.objs.size f cdv)) → S ds ω Q →
      ∃ t, DSs (cxOf CX0 P w K mg base N qual scope f cdv A outer s H E).nox W body t ∧ t { nx := fun _ ω' => Q .non ω', rt := Q } (startD N ds) ω) :
    FnG P w K mg base CX0 (k + 1) f fd ps (spOf W S) := by
  obtain ⟨oc, od, dV, kV, doc, pm, an, cdv, ct, osl, e, lk, hcd, _, _⟩ := F.ex
  subst e
  refine fnG_of lk hcd C (fun vs H Q E ⟨Ex, ω, ds, Q0, _, _, _, q, h, _⟩ => by rw [q.length]; exact len _ _ _ h) ?_
  intro A outer s H vs Q E g hr ⟨Ex, ω, ds, Q0, wo, mu, tr, q, h, fin⟩
  obtain ⟨t, h1, h2⟩ := hbody cdv A outer s H E ds ω Q0 g hr h
  refine ⟨_, h1.pss.nox, ⟨H, Ex⟩, Ex, _, ω, _, rep_start wo mu tr q, h2, ⟨fun σ' H' ⟨Ex', ρ', ω', s, r, z⟩ => ?_, fun v H' ⟨d, ω', k, w, z, q'⟩ => fin d ω' v H' q' k w z, fun σ' H' ⟨_, _, _, _, _, z⟩ => z.elim, fun σ' H' ⟨_, _, _, _, _, z⟩ => z.elim⟩⟩
  exact fin .non ω' .non H' z r.kp (W.le r.wo fun b m => .inl (r.sub b m)) .non

/-! ## a def as it is called -/
/-- a def of the module: where it stands, its body, how its arguments bind -/
structure Df (K : PySem.W.Frag) (mg : Str → Option Value) (x : Str) (st : Stmt) (ps : List Str) (f : Addr) (fd : FuncData) : Prop where
  F : Fun K x x st f fd
  m : mg x = some (.ref f)
  b : Binds K fd ps []
/-! ## the law's end -/
/-- the law's def, where no repr is running -/
theorem law_callG {P : Program} {w : World} {K : PySem.W.Frag} {mg mb : Str → Option Value} {k : Nat} {fa a : Addr} {fd : FuncData} {x : Str} {sp : Sp} {s1 : Shared} {vs : List Value} {ns : List Int}
    (KX : K.In s1.heap) (hns : s1.heap.Ns mainGlobals mg) (hb : s1.heap.Ns builtinsNs mb) (hbb : ∀ x : Str, x ≠ "__name__" → mb x = bootBuiltins x) (hlim : s1.heap.NoLimit) (hsy : ∃ mm, s1.heap.Ns sysModules mm) (hg : s1.gens = #[])
    (ha : s1.heap.get? a = some { cls := .type "list", data := .seq vs.toArray }) (hi : IntsAre vs ns) (hl : ns.length ≤ sizeLine) (hr : Room k callerA)
    (F : ∀ base : Heap, K.In base → base.Ns mainGlobals mg → BaseS base → FnG P w K mg base CX0 k fa fd [x] sp) (hbind : ∀ (s : Shared) (u : Value), BindsTo s fd ⟨[u], []⟩ [(x, u)])
    (hsp : ∀ H : Hp, Only H → SqL K H a (ns.map V.int) → sp [.ref a] H (fun v _ => v = .bl true) fun _ _ _ => False) :
    codeAny (model P w) callerA (.call (.ref fa) ⟨[.ref a], []⟩) (fun r s' => r = .ok (.ret (.bool true)) ∧ OldK s1.heap s'.heap ∧ s'.os = s1.os ∧ AllBare s'.gens) s1 := by
  have rv := vals_ints hi
  have lenV := hi.length
  have main : ∀ H : Hp, Only H → SqL K H a (ns.map V.int) → HOk P w H s1.heap → (∀ b, H b ≠ none → b = a) → (H a ≠ none → K.lookup a = none) →
      codeAny (model P w) callerA (.call (.ref fa) ⟨[.ref a], []⟩) (fun r s' => r = .ok (.ret (.bool true)) ∧ OldK s1.heap s'.heap ∧ s'.os = s1.os ∧ AllBare s'.gens) s1 := by
    intro H hO hS hok hA hK
    have onlyA : ∀ {b : Addr}, b ≠ a → H b = none := fun {b} nb => by
      cases q : H b with
      | none => rfl
      | some u => exact absurd (hA b (by rw [q]; exact fun z => nomatch z)) nb
    have dictsFree : ∀ {b : Addr} {o : Obj} {es : Array DictEntry} {ep : Nat}, s1.heap.get? b = some o → o.data = .dict es ep → H b = none := fun {b o es ep} e d => onlyA fun z => by
      subst z
      rw [ha] at e
      cases e
      have d' : Data.seq vs.toArray _ = Data.dict es ep := d
      cases d'
    have nsB : ∀ {b : Addr} {m : Str → Option Value}, s1.heap.Ns b m → (hidT s1.heap H).Ns b m := fun {b m} ⟨o, es, ep, e, d, r⟩ => ⟨o, es, ep, hidT_get e (dictsFree e d), d, r⟩
    have inB : K.In (hidT s1.heap H) := fun b o e => hidT_get (KX b o e) (by
      cases q : H b with
      | none => rfl
      | some u =>
        have z := hA b (by rw [q]; exact fun z => nomatch z)
        subst z
        rw [hK (by rw [q]; exact fun z => nomatch z)] at e
        cases e)
    have hM : Mod K mg (hidT s1.heap H) := ⟨inB, nsB hns, ⟨mb, nsB hb, hbb⟩, by obtain ⟨mc, h1, h2⟩ := hlim; exact ⟨mc, nsB h1, h2⟩⟩
    have hS2 : BaseS (hidT s1.heap H) := by
      obtain ⟨mm, h⟩ := hsy
      obtain ⟨o, es, ep, e, _⟩ := nsB h
      exact ⟨o, e⟩
    have e0 : Env0 P w K mg (hidT s1.heap H) callerA [] s1 H :=
      ⟨rfl, hM, fun b o e => of_hidT e, Nat.le_of_eq (hidT_size _ _), trivial, fun b z => absurd (show b ∈ ([] : List Addr) from z) List.not_mem_nil, hok, .of_eq hg⟩
    have go := (F _ inB (nsB hns) hS2).run callerA [] s1 H ⟨[.ref a], []⟩ [.ref a] [.ref a] _ _ rfl hr e0 (hbind s1 (.ref a)) (.cons rfl .nil) (hsp H hO hS)
    refine codeAny_mono go ?_
    intro r s' h
    match r, h with
    | .error e, h => exact False.elim h
    | .ok .next, h => exact False.elim h
    | .ok .brk, h => exact False.elim h
    | .ok .cont, h => exact False.elim h
    | .ok (.ret u), h =>
      obtain ⟨v, H', os, bare, un, hok', r', q⟩ := h
      have ev : v = .bl true := q
      subst ev
      have eu : u = Value.bool true := r'
      subst eu
      refine ⟨rfl, OldK.of_keep fun b o e => ?_, os, bare⟩
      cases q : H b with
      | none => exact un.keep b o e q (fun z => absurd (show b ∈ ([] : List Addr) from z) List.not_mem_nil) List.not_mem_nil
      | some u =>
        rcases hO b with z | ⟨ob, xs, z⟩
        · rw [q] at z; cases z
        · obtain ⟨e1, _⟩ := hok b _ z
          obtain ⟨e2, _⟩ := hok' b _ (un.frzs b ob _ z)
          rw [e] at e1
          cases e1
          exact e2
  cases hk : K.lookup a with
  | some o =>
    have e := KX a o hk
    rw [ha] at e
    cases e
    exact main (fun _ => none) (fun _ => .inl rfl) (.inr ⟨_, vs.toArray, _, hk, rfl, rfl, rfl, by rw [List.size_toArray, lenV]; exact hl, by simpa using rv⟩) (fun b u z => nomatch (show (none : Option HO) = some u from z)) (fun b z => absurd rfl z) fun z => absurd rfl z
  | none =>
    have at_a : ∀ {b : Addr} {u : HO}, (if b = a then some (HO.frz { cls := .type "list", data := .seq vs.toArray } (.lst (ns.map V.int))) else none) = some u → b = a ∧ u = .frz { cls := .type "list", data := .seq vs.toArray } (.lst (ns.map V.int)) := fun {b u} z => by
      by_cases hb : b = a
      · rw [if_pos hb] at z
        exact ⟨hb, (Option.some.inj z).symm⟩
      · rw [if_neg hb] at z
        cases z
    refine main (fun b => if b = a then some (.frz { cls := .type "list", data := .seq vs.toArray } (.lst (ns.map V.int))) else none) (fun b => ?_) (.inl (.inr ⟨{ cls := .type "list", data := .seq vs.toArray }, if_pos rfl⟩)) (fun b u z => ?_) (fun b z => ?_) fun _ => hk
    · by_cases hb : b = a
      · exact .inr ⟨_, _, if_pos hb⟩
      · exact .inl (if_neg hb)
    · obtain ⟨e1, e2⟩ := at_a z
      subst e1
      subst e2
      exact ⟨ha, by rw [List.length_map]; exact hl, vs, _, rv, ha⟩
    · cases q : (if b = a then some (HO.frz { cls := .type "list", data := .seq vs.toArray } (.lst (ns.map V.int))) else none) with
      | none => exact absurd q z
      | some u => exact (at_a q).1
theorem walkG {l : PySem.W.OpenLaw} {n k : Nat} {q : Program} {loose : List Str} {XP : (Str → Option Value) → Heap → Prop} {YP : World → Heap → Prop} {d : DefRec} {K : Params → PySem.W.Frag} {sp : PySem.W.Frag → Sp} {x : Str}
    (hn : l.most = some n) (hn2 : n ≤ sizeLine) (hdf : d.params.defaults = []) (hr : Room k callerA) (hq : importsNone q = true)
    (hY : ∀ (w : World) (h : Heap), YP w h → (K w.params).In h)
    (F : ∀ (w : World) (mg : Str → Option Value) (fa : Addr) (h : Heap), (K w.params).In h → h.Ns mainGlobals mg → mg d.name = some (.ref fa) →
      ∃ fd : FuncData, (∀ (s : Shared) (u : Value), BindsTo s fd ⟨[u], []⟩ [(x, u)]) ∧
        ∀ base : Heap, (K w.params).In base → base.Ns mainGlobals mg → BaseS base → FnG l.prog w (K w.params) mg base CX0 k fa fd [x] (sp (K w.params)))
    (hsp : ∀ (K : PySem.W.Frag) (H : Hp) (a : Addr) (ns : List Int), ns.length ≤ n → Only H → SqL K H a (ns.map V.int) → sp K [.ref a] H (fun v _ => v = .bl true) fun _ _ _ => False) :
    PySem.W.WalkO q loose XP YP l.row.toRowW d [] (fun f vs => PySem.call f vs) := by
  refine Att.attach_call hn hdf ?_
  intro w s0 s1 mg mb fa o pm cd doc a vs ns G Y ho hd hcd hmg hobj hints hlen hg
  have KX := hY w _ Y
  obtain ⟨fd, hb, hF⟩ := F w mg fa _ KX G.T.g hmg
  have hsy : ∃ mm, s1.heap.Ns sysModules mm := by
    obtain ⟨mm, h, _⟩ := (G.T.seer hq).mods
    exact ⟨mm, h⟩
  exact law_callG KX G.T.g G.T.b G.T.builtins G.T.nolimit hsy hg hobj hints (Nat.le_trans hlen hn2) hr hF hb fun H hO hS => hsp _ H a ns hlen hO hS
end Tk

namespace Tk
open PySem PySem.Spec PyProof.Rows L2

/-! ## the pen of the laws -/
abbrev kC : Key := Sum.inr ("cells" : Str)
abbrev kT : Key := Sum.inr ("turn" : Str)
abbrev kR : Key := Sum.inr ("rest" : Str)
def penK (c : Addr) (turn rest : Int) : List (Key × V) := [(kC, .ref c), (kT, .int turn), (kR, .int rest)]
theorem pen_ct : ¬ (kC = kT) := by decide +kernel
theorem pen_cr : ¬ (kC = kR) := by decide +kernel
theorem pen_tr : ¬ (kT = kR) := by decide +kernel
theorem pen_rt : ¬ (kR = kT) := by decide +kernel
theorem pen_cells {c : Addr} {t r : Int} : valV (penK c t r) (kC) = some (.ref c) := valV_pos (p := (kC, V.ref c)) rfl
theorem pen_turn {c : Addr} {t r : Int} : valV (penK c t r) (kT) = some (.int t) := by
  unfold penK
  rw [valV_neg (p := (kC, V.ref c)) pen_ct]
  exact valV_pos (p := (kT, V.int t)) rfl
theorem pen_rest {c : Addr} {t r : Int} : valV (penK c t r) (kR) = some (.int r) := by
  unfold penK
  rw [valV_neg (p := (kC, V.ref c)) pen_cr, valV_neg (p := (kT, V.int t)) pen_tr]
  exact valV_pos (p := (kR, V.int r)) rfl
theorem pen_putT {c : Addr} {t r x : Int} : putK (penK c t r) (kT) (.int x) = penK c x r := by
  have h : ((penK c t r).any fun kv => decide (kv.1 = kT)) = true := by rw [valV_any, pen_turn]; rfl
  unfold putK
  rw [if_pos h]
  show [if kC = kT then _ else _, if kT = kT then _ else _, if kR = kT then _ else _] = _
  rw [if_neg pen_ct, if_pos rfl, if_neg pen_rt]
  rfl
theorem pen_putR {c : Addr} {t r x : Int} : putK (penK c t r) (kR) (.int x) = penK c t x := by
  have h : ((penK c t r).any fun kv => decide (kv.1 = kR)) = true := by rw [valV_any, pen_rest]; rfl
  unfold putK
  rw [if_pos h]
  show [if kC = kR then _ else _, if kT = kR then _ else _, if kR = kR then _ else _] = _
  rw [if_neg pen_cr, if_neg pen_tr, if_pos rfl]
  rfl
/-- the pen at p, t turns at most so far -/
def PenAt (p : Addr) (t : Nat) (N : Addr → Prop) (H : Hp) : Prop := ∃ (c : Addr) (cells : List Int) (turn rest : Int), ¬ N p ∧ ¬ N c ∧ H p = some (.dK (penK c turn rest)) ∧ H c = some (.lst (cells.map V.int)) ∧
  cells.length ≤ 63 ∧ 0 ≤ turn ∧ turn ≤ t ∧ 0 ≤ rest
abbrev PenW (p : Addr) : Wo where
  Om := Nat
  Mu := fun a => a = p
  ok := fun t N H => PenAt p t N H
  grow := fun {t N H H'} ⟨c, cells, turn, rest, n1, n2, hp, hc, h⟩ k => ⟨c, cells, turn, rest, n1, n2, k _ _ hp n1, k _ _ hc n2, h⟩
  less := fun {t N N' H} ⟨c, cells, turn, rest, n1, n2, hp, hc, h⟩ s => ⟨c, cells, turn, rest,
    (fun m => (s p m).elim n1 fun z => by rw [z] at hp; cases hp), (fun m => (s c m).elim n2 fun z => by rw [z] at hc; cases hc), hp, hc, h⟩
  trk := fun {t N H a} ⟨c, cells, turn, rest, n1, n2, hp, hc, h⟩ e => by subst e; rw [hp]; exact fun z => nomatch z
/-- a draw of one of so many -/
def drawS (p : Addr) (ds : List D) (t : Nat) (Q : D → Nat → Prop) : Prop := ∃ many : Int, ds = [.ob p, .int many] ∧ 0 < many ∧ many < 1073741824 ∧ t < 2 ^ 60 ∧ ∀ k : Int, 0 ≤ k → k < many → Q (.int k) (t + 1)
theorem dp_ints {K : PySem.W.Frag} {H : Hp} : ∀ ns : List Int, DpAll K H (ns.map V.int) (ns.map PyData.int)
  | [] => .nil
  | n :: ns => .cons (.int n) (dp_ints ns)
theorem canLay_ints : ∀ ns : List Int, PyData.canLayAll0 (ns.map PyData.int) = true
  | [] => rfl
  | n :: ns => by
    show (PyData.canLay0 (.int n) && PyData.canLayAll0 (ns.map PyData.int)) = true
    rw [canLay_ints ns]
    rfl
theorem depth_ints : ∀ ns : List Int, PyData.depthAll (ns.map PyData.int) = 0
  | [] => rfl
  | n :: ns => by
    show max (PyData.depth (.int n)) (PyData.depthAll (ns.map PyData.int)) = 0
    rw [depth_ints ns]
    rfl
theorem shaped_ints (ns : List Int) : SeqAt.shaped (.list (ns.map PyData.int)) = true := by
  unfold SeqAt.shaped
  have h1 : PyData.canLay0 (.list (ns.map PyData.int)) = true := canLay_ints ns
  have h2 : PyData.depth (.list (ns.map PyData.int)) = 1 := by
    show PyData.depthAll (ns.map PyData.int) + 1 = 1
    rw [depth_ints]
  rw [h1, h2]
  rfl
theorem shaped_nil : SeqAt.shaped (.list []) = true := rfl
theorem ne_nil_ints (ns : List Int) : (!PyData.eqv (.list (ns.map PyData.int)) (.list [])) = !ns.isEmpty := by
  cases ns with
  | nil => simp [PyData.eqv, PyData.eqvAll]
  | cons n ns => simp [PyData.eqv, PyData.eqvAll]
end Tk

namespace Tk
open PySem PySem.Spec PyProof.Rows L2

/-! ## a list beside the empty one -/
def eqE : D → D → Option D
  | .lst xs, .lst [] => some (.bl xs.isEmpty)
  | _, _ => none
def eqD2 (x y : D) : Option D := match eqE x y with
  | some z => some z
  | none => eqD x y
section
variable {X : Cx} {W : Wo}
theorem op_eqE (hu : X.A.units < cLine) : OpR X (compareOp .Eq) (fun x y H Q => ∃ a b xs, x = .ref a ∧ y = .ref b ∧ H a = some (.lst xs) ∧ H b = some (.lst []) ∧ Q (.bl xs.isEmpty) H) := by
  intro pins s σ H x y v u Q I rx ry h
  obtain ⟨a, b, xs, rfl, rfl, h1, h2, q⟩ := h
  cases rx
  cases ry
  obtain ⟨its, r1, p1, _⟩ := I.list (SqL.of (K := X.K) h1)
  obtain ⟨its2, r2, p2, _⟩ := I.list (SqL.of (K := X.K) h2)
  cases r2
  cases r1 with
  | nil => exact SeqAt.eq_listAt (e := fun _ => true) p1.isList p2.isList rfl hu (fun j h => absurd h (Nat.not_lt_zero _)) ⟨.bl _, H, I, rfl, q⟩
  | cons r t => exact SeqAt.eq_list_lengthsAt p1.isList p2.isList rfl hu ⟨.bl _, H, I, rfl, q⟩
theorem o_eq2 (hu : X.A.units + 64 < cLine) : Op2 X W (compareOp .Eq) eqD2 := by
  obtain ⟨r, h1, h2⟩ := (o_eq hu : Op2 X W (compareOp .Eq) eqD)
  refine ⟨_, (op_eqE (by omega)).or h1, ?_⟩
  intro H Ex x y dx dy z Q tr hx hy e k
  unfold eqD2 at e
  split at e
  · rename_i z' e'
    cases e
    unfold eqE at e'
    split at e'
    · cases e'
      obtain ⟨a, vs, rfl, g1, g2⟩ := hx.ofL
      obtain ⟨b, ws, rfl, g3, g4⟩ := hy.ofL
      cases g4
      exact .inl ⟨a, b, vs, rfl, rfl, g1, g3, by rw [g2.isEmpty]; exact k _ _ (Same.refl H) (.bl _)⟩
    · cases e'
  · exact .inr (h2 tr hx hy e k)
end
theorem eqD2_nil (xs : List D) : eqD2 (.lst xs) (.lst []) = some (.bl xs.isEmpty) := rfl
/-! ## comprehensions and loops, told at once -/
section
variable {W : Wo} {f : D → Rho → Option Rho} {tt : DB W} {te : DT W} {ρ : Rho}
theorem lcW_map (g : D → D) : ∀ (items acc : List D) {ω : W.Om} {Q : D → W.Om → Prop}, (∀ x ∈ items, ∃ ρ', f x ρ = some ρ' ∧ ∀ (ω : W.Om) (Q : D → W.Om → Prop), Q (g x) ω → te ρ' ω Q) → acc.length + items.length ≤ sizeLine →
    Q (.lst (acc ++ items.map g)) ω → lcW f dYes te ρ items acc ω Q
  | [], acc, ω, Q, _, _, q => by rw [List.map_nil, List.append_nil] at q; exact q
  | x :: xs, acc, ω, Q, h, hl, q => by
    obtain ⟨ρ', e, k⟩ := h x List.mem_cons_self
    rw [List.length_cons] at hl
    have go := k ω (fun d ω2 => acc.length < sizeLine ∧ lcW f dYes te ρ xs (acc ++ [d]) ω2 Q) ⟨by omega, lcW_map g xs (acc ++ [g x]) (fun y hy => h y (List.mem_cons_of_mem _ hy)) (by rw [List.length_append, List.length_singleton]; omega) (by rw [List.append_assoc]; exact q)⟩
    exact ⟨ρ', e, go⟩
theorem lcW_filter (p : D → Bool) (g : D → D) : ∀ (items acc : List D) {ω : W.Om} {Q : D → W.Om → Prop},
    (∀ x ∈ items, ∃ ρ', f x ρ = some ρ' ∧ (∀ (ω : W.Om) (Q : Bool → W.Om → Prop), Q (p x) ω → tt ρ' ω Q) ∧ (p x = true → ∀ (ω : W.Om) (Q : D → W.Om → Prop), Q (g x) ω → te ρ' ω Q)) → acc.length + items.length ≤ sizeLine →
    Q (.lst (acc ++ (items.filter p).map g)) ω → lcW f tt te ρ items acc ω Q
  | [], acc, ω, Q, _, _, q => by rw [List.filter_nil, List.map_nil, List.append_nil] at q; exact q
  | x :: xs, acc, ω, Q, h, hl, q => by
    obtain ⟨ρ', e, k1, k2⟩ := h x List.mem_cons_self
    rw [List.length_cons] at hl
    refine ⟨ρ', e, k1 _ _ ?_⟩
    cases hp : p x with
    | true =>
      rw [if_pos rfl]
      refine k2 hp _ _ ⟨by omega, lcW_filter p g xs (acc ++ [g x]) (fun y hy => h y (List.mem_cons_of_mem _ hy)) (by rw [List.length_append, List.length_singleton]; omega) ?_⟩
      rw [List.filter_cons_of_pos hp, List.map_cons] at q
      rw [List.append_assoc]
      exact q
    | false =>
      rw [if_neg Bool.false_ne_true]
      refine lcW_filter p g xs acc (fun y hy => h y (List.mem_cons_of_mem _ hy)) (by omega) ?_
      rw [List.filter_cons_of_neg (by rw [hp]; exact Bool.false_ne_true)] at q
      exact q
/-- by an invariant of what is made so far -/
theorem lcW_inv (I : Nat → List D → W.Om → Prop) : ∀ (items acc : List D) {i : Nat} {ω : W.Om} {Q : D → W.Om → Prop}, acc.length + items.length ≤ sizeLine → I i acc ω →
    (∀ (j : Nat) (x : D) (acc : List D) (ω : W.Om), items[j]? = some x → I (i + j) acc ω → ∃ ρ', f x ρ = some ρ' ∧ ∀ Q : D → W.Om → Prop, (∀ d ω', I (i + j + 1) (acc ++ [d]) ω' → Q d ω') → te ρ' ω Q) →
    (∀ acc ω, I (i + items.length) acc ω → Q (.lst acc) ω) → lcW f dYes te ρ items acc ω Q
  | [], acc, i, ω, Q, _, h, _, d => d acc ω h
  | x :: xs, acc, i, ω, Q, hl, h, st, d => by
    obtain ⟨ρ', e, k⟩ := st 0 x acc ω rfl h
    rw [List.length_cons] at hl
    have go := k (fun d ω2 => acc.length < sizeLine ∧ lcW f dYes te ρ xs (acc ++ [d]) ω2 Q) fun y ω' h' => ⟨by omega, lcW_inv I xs (acc ++ [y]) (i := i + 1) (by rw [List.length_append, List.length_singleton]; omega) h' (fun j z acc ω hz hI => by
      have e1 : i + 1 + j = i + (j + 1) := by omega
      rw [e1] at hI ⊢
      exact st (j + 1) z acc ω (by simpa using hz) hI) fun acc ω hI => d acc ω (by
      rw [List.length_cons]
      have e1 : i + (xs.length + 1) = i + 1 + xs.length := by omega
      rw [e1]
      exact hI)⟩
    exact ⟨ρ', e, go⟩
theorem forW_inv {tb : DTS W} {D0 : DEnds W} (I : Nat → Rho → W.Om → Prop) : ∀ (items : List D) {i : Nat} {ρ : Rho} {ω : W.Om}, I i ρ ω →
    (∀ (j : Nat) (x : D) (ρ : Rho) (ω : W.Om), items[j]? = some x → I (i + j) ρ ω → ∃ ρ', f x ρ = some ρ' ∧ ∀ nx : Rho → W.Om → Prop, (∀ ρ ω, I (i + j + 1) ρ ω → nx ρ ω) → tb { D0 with nx := nx, ct := nx, bk := D0.nx } ρ' ω) →
    (∀ ρ ω, I (i + items.length) ρ ω → D0.nx ρ ω) → forW f tb D0 items ρ ω
  | [], i, ρ, ω, h, _, d => d ρ ω h
  | x :: xs, i, ρ, ω, h, st, d => by
    obtain ⟨ρ', e, k⟩ := st 0 x ρ ω rfl h
    refine ⟨ρ', e, k _ fun ρ ω h' => forW_inv I xs (i := i + 1) h' (fun j z ρ ω hz hI => ?_) fun ρ ω hI => ?_⟩
    · have e1 : i + 1 + j = i + (j + 1) := by omega
      rw [e1] at hI ⊢
      exact st (j + 1) z ρ ω (by simpa using hz) hI
    · refine d ρ ω ?_
      rw [List.length_cons]
      have e1 : i + (xs.length + 1) = i + 1 + xs.length := by omega
      rw [e1]
      exact hI
end
theorem boolsD_map {α : Type} (p : α → Bool) : ∀ xs : List α, boolsD (xs.map fun x => D.bl (p x)) = some (xs.map p)
  | [] => rfl
  | x :: xs => by
    show (boolsD (xs.map fun x => D.bl (p x))).map (fun r => p x :: r) = _
    rw [boolsD_map p xs]
    rfl
theorem allD_map {α : Type} (p : α → Bool) (xs : List α) : allD (.lst (xs.map fun x => D.bl (p x))) = some (.bl (xs.all p)) := by
  show (boolsD (xs.map fun x => D.bl (p x))).map (fun bs => D.bl (bs.all id)) = _
  rw [boolsD_map]
  show some (D.bl ((xs.map p).all id)) = _
  rw [List.all_map]
  rfl
theorem rngD_length (lo : Int) (n : Nat) : (rngD lo n).length = n := by unfold rngD; simp
theorem rngD_at {lo : Int} {n j : Nat} {x : D} (h : (rngD lo n)[j]? = some x) : j < n ∧ x = .int (lo + j) := by
  have hj : j < n := by
    have := (List.getElem?_eq_some_iff.mp h).1
    rw [rngD_length] at this
    exact this
  refine ⟨hj, ?_⟩
  unfold rngD at h
  rw [List.getElem?_map, List.getElem?_range hj] at h
  exact (Option.some.inj h).symm
/-! ## a def that keeps no promise -/
theorem FnG.no {P : Program} {w : World} {K : PySem.W.Frag} {mg : Str → Option Value} {base : Heap} {CX : CXT} {k : Nat} {f : Addr} {fd : FuncData} {ps : List Str} {W : Wo} : FnG P w K mg base CX k f fd ps (spOf W fun _ _ _ => False) where
  len := fun vs H Q E ⟨_, _, _, _, _, _, _, _, h, _⟩ => h.elim
  run := fun A outer s H args us vs Q E g hr e0 hb r ⟨_, _, _, _, _, _, _, _, h, _⟩ => h.elim
/-- a weaker promise over data -/
theorem FnG.impD {P : Program} {w : World} {K : PySem.W.Frag} {mg : Str → Option Value} {base : Heap} {k : Nat} {f : Addr} {fd : FuncData} {ps : List Str} {W : Wo} {S S' : Spd W} (F : FnG P w K mg base CX0 k f fd ps (spOf W S))
    (h : ∀ ds ω Q, S' ds ω Q → S ds ω Q) : FnG P w K mg base CX0 k f fd ps (spOf W S') :=
  F.imp fun vs H Q E ⟨Ex, ω, ds, Q0, a, b, c, d, e, g⟩ => ⟨Ex, ω, ds, Q0, a, b, c, d, h _ _ _ e, g⟩
/-! ## calls that leave defaults -/
structure DfD (K : PySem.W.Frag) (mg : Str → Option Value) (x : Str) (st : Stmt) (ps : List Str) (dvs : List V) (f : Addr) (fd : FuncData) : Prop where
  F : FunD K x x (defArgs st) (defBody st) (defScope st) dvs [] f fd
  m : mg x = some (.ref f)
  bd : ∃ dus, Vals dvs dus ∧ Binds K fd ps dus
theorem de_clD {X : Cx} {W : Wo} {e : Expr} {es : List Expr} {pos : Pos} {tl : DA W} {k : Nat} {f : Addr} {fd : FuncData} {ps : List Str} {S : Spd W} {dvs : List V} {dds : List D} {x : Str} {p : Pos} (F : FnG X.prog X.w X.K X.mg X.base CX0 k f fd ps (spOf W S)) (g : Gd X.A) (hr : Room k X.A)
    (hg : Gl X x) (hm : X.mg x = some (.ref f)) (hk : PySem.W.keepIn X.K (.ref f) = true) (hb : ∃ dus, Vals dvs dus ∧ Binds X.K fd ps dus) (hf : Paired Flat dvs dds) (ha : DL X W (e :: es) tl)
    (hdb : (x == ("__debug__" : Str)) = false := by decide) (he : starEach (e :: es) X.env = (false, eval e X.env) :: starEach es X.env := by rfl) (hpl : (backTo pos (starEach es X.env)).any (·.1) = false := by rfl) :
    DE X W (.Call (.Name x p) (e :: es) [] pos) (dCall S dds tl) := by
  obtain ⟨dus, h1, h2⟩ := hb
  exact de_cl F g hr hg hm hk h2 h1 hf ha hdb he hpl
/-! ## what is known of each kind -/
@[simp] theorem isObD_non  : isObD D.non = false := rfl
@[simp] theorem isN_non  : isN D.non = true := rfl
@[simp] theorem isI_non (T : String)  : isI T D.non = isIT "NoneType" T := rfl
@[simp] theorem isObD_bl (b : Bool) : isObD (D.bl b) = false := rfl
@[simp] theorem isN_bl (b : Bool) : isN (D.bl b) = false := rfl
@[simp] theorem isI_bl (T : String) (b : Bool) : isI T (D.bl b) = isIT "bool" T := rfl
@[simp] theorem isObD_int (i : Int) : isObD (D.int i) = false := rfl
@[simp] theorem isN_int (i : Int) : isN (D.int i) = false := rfl
@[simp] theorem isI_int (T : String) (i : Int) : isI T (D.int i) = isIT "int" T := rfl
@[simp] theorem isObD_str (x : Str) : isObD (D.str x) = false := rfl
@[simp] theorem isN_str (x : Str) : isN (D.str x) = false := rfl
@[simp] theorem isI_str (T : String) (x : Str) : isI T (D.str x) = isIT "str" T := rfl
@[simp] theorem isObD_lst (xs : List D) : isObD (D.lst xs) = false := rfl
@[simp] theorem isN_lst (xs : List D) : isN (D.lst xs) = false := rfl
@[simp] theorem isI_lst (T : String) (xs : List D) : isI T (D.lst xs) = isIT "list" T := rfl
@[simp] theorem isObD_tup (xs : List D) : isObD (D.tup xs) = false := rfl
@[simp] theorem isN_tup (xs : List D) : isN (D.tup xs) = false := rfl
@[simp] theorem isI_tup (T : String) (xs : List D) : isI T (D.tup xs) = isIT "tuple" T := rfl
@[simp] theorem isObD_dic (xs : List (Key × D)) : isObD (D.dic xs) = false := rfl
@[simp] theorem isN_dic (xs : List (Key × D)) : isN (D.dic xs) = false := rfl
@[simp] theorem isI_dic (T : String) (xs : List (Key × D)) : isI T (D.dic xs) = isIT "dict" T := rfl
@[simp] theorem isObD_ob (a : Addr) : isObD (D.ob a) = true := rfl
@[simp] theorem isN_ob (a : Addr) : isN (D.ob a) = false := rfl
@[simp] theorem isI_ob (T : String) (a : Addr) : isI T (D.ob a) = isIT "" T := rfl
theorem inD_f {c : Nat} {y : Str} : inD false (.str ⟨#[c]⟩) (.str y) = some (.bl (decide (c ∈ y.cps.toList))) := rfl
theorem inD_t {c : Nat} {y : Str} : inD true (.str ⟨#[c]⟩) (.str y) = some (.bl (!decide (c ∈ y.cps.toList))) := rfl
/-! ## data of small parts -/
mutual
/-- no opaque thing; texts and lists are small -/
def D.wf : D → Bool
  | .non => true
  | .bl _ => true
  | .int _ => true
  | .str x => decide (x.length ≤ 1000) && PyData.strOk x
  | .lst xs => decide (xs.length ≤ 1000) && D.wfL xs
  | .tup xs => decide (xs.length ≤ 1000) && D.wfL xs
  | .dic kvs => decide (kvs.length ≤ 1000) && D.wfK kvs
  | .ob _ => false
def D.wfL : List D → Bool
  | [] => true
  | d :: ds => d.wf && D.wfL ds
def D.wfK : List (Key × D) → Bool
  | [] => true
  | (_, d) :: ds => d.wf && D.wfK ds
end
theorem wf_ob {d : D} (h : d.wf = true) : isObD d = false := by
  cases d <;> first | rfl | cases h
theorem wfL_mem {ds : List D} : D.wfL ds = true → ∀ d ∈ ds, d.wf = true := by
  induction ds with
  | nil => intro _ d hd; cases hd
  | cons x xs ih =>
    intro h d hd
    have h' := Bool.and_eq_true_iff.mp (show (x.wf && D.wfL xs) = true from h)
    rcases List.mem_cons.mp hd with e | hd
    · rw [e]; exact h'.1
    · exact ih h'.2 d hd
theorem wf_str {x : Str} (h : (D.str x).wf = true) : x.length ≤ 1000 ∧ PyData.strOk x = true := by
  have h' := Bool.and_eq_true_iff.mp (show (decide (x.length ≤ 1000) && PyData.strOk x) = true from h)
  exact ⟨of_decide_eq_true h'.1, h'.2⟩
theorem wf_tup {xs : List D} (h : (D.tup xs).wf = true) : xs.length ≤ 1000 ∧ D.wfL xs = true := by
  have h' := Bool.and_eq_true_iff.mp (show (decide (xs.length ≤ 1000) && D.wfL xs) = true from h)
  exact ⟨of_decide_eq_true h'.1, h'.2⟩
theorem wf_lst {xs : List D} (h : (D.lst xs).wf = true) : xs.length ≤ 1000 ∧ D.wfL xs = true := by
  have h' := Bool.and_eq_true_iff.mp (show (decide (xs.length ≤ 1000) && D.wfL xs) = true from h)
  exact ⟨of_decide_eq_true h'.1, h'.2⟩
theorem line1000 {n : Nat} (h : n ≤ 1000) : n ≤ sizeLine := Nat.le_trans h (by decide)
/-! ## words -/
def abc : Str := "abcdefghijklmnopqrstuvwxyz"
def signsAll (z x : Str) : Bool := x.cps.toList.all fun c => decide (c ∈ z.cps.toList)
theorem signs_len (x : Str) : (signs x).length = x.length := by
  unfold signs
  rw [List.length_map]
  exact Array.length_toList
theorem signs_mem {x : Str} {d : D} (h : d ∈ signs x) : ∃ c, d = .str ⟨#[c]⟩ ∧ c ∈ x.cps.toList := by
  unfold signs at h
  obtain ⟨c, hc, e⟩ := List.mem_map.mp h
  exact ⟨c, e.symm, hc⟩
end Tk

namespace Tk
open PySem PySem.Spec PyProof.Rows L2
/-! ## data that repr can tell -/
structure Sh (B n k : Nat) (d : D) : Prop where
  wf : d.wf = true
  pl : d.pl = true
  sw : d.py.showable = true
  lv : d.py.leavesShort B = true
  wt : d.py.weight ≤ n
  dp : d.py.depth ≤ k
structure ShL (B n k : Nat) (xs : List D) : Prop where
  wf : D.wfL xs = true
  pl : D.plL xs = true
  sw : PyData.showableAll (D.pyL xs) = true
  lv : PyData.leavesShortAll B (D.pyL xs) = true
  wt : PyData.weightAll (D.pyL xs) ≤ xs.length * (n + 1)
  dp : PyData.depthAll (D.pyL xs) ≤ k
def shB (B n k : Nat) (d : D) : Bool := d.wf && d.pl && d.py.showable && d.py.leavesShort B && decide (d.py.weight ≤ n) && decide (d.py.depth ≤ k)
theorem Sh.of {B n k : Nat} {d : D} (h : shB B n k d = true) : Sh B n k d := by
  unfold shB at h
  simp only [Bool.and_eq_true, decide_eq_true_eq] at h
  exact ⟨h.1.1.1.1.1, h.1.1.1.1.2, h.1.1.1.2, h.1.1.2, h.1.2, h.2⟩
theorem Sh.le {B n k n' k' : Nat} {d : D} (h : Sh B n k d) (hn : n ≤ n') (hk : k ≤ k') : Sh B n' k' d := ⟨h.wf, h.pl, h.sw, h.lv, Nat.le_trans h.wt hn, Nat.le_trans h.dp hk⟩
theorem ShL.nil {B n k : Nat} : ShL B n k [] := ⟨rfl, rfl, rfl, rfl, Nat.zero_le _, Nat.zero_le _⟩
theorem ShL.cons {B n k : Nat} {d : D} {xs : List D} (h : Sh B n k d) (t : ShL B n k xs) : ShL B n k (d :: xs) where
  wf := Bool.and_eq_true_iff.mpr ⟨h.wf, t.wf⟩
  pl := Bool.and_eq_true_iff.mpr ⟨h.pl, t.pl⟩
  sw := Bool.and_eq_true_iff.mpr ⟨h.sw, t.sw⟩
  lv := Bool.and_eq_true_iff.mpr ⟨h.lv, t.lv⟩
  wt := by
    show PyData.weight d.py + 1 + PyData.weightAll (D.pyL xs) ≤ (xs.length + 1) * (n + 1)
    have h1 := h.wt
    have h2 := t.wt
    rw [Nat.add_mul]
    omega
  dp := Nat.max_le.mpr ⟨h.dp, t.dp⟩
theorem ShL.all {B n k : Nat} : ∀ {xs : List D}, (∀ x ∈ xs, Sh B n k x) → ShL B n k xs
  | [], _ => .nil
  | x :: xs, h => .cons (h x List.mem_cons_self) (.all fun y hy => h y (List.mem_cons_of_mem _ hy))
section
variable {B n k n' k' m : Nat} {xs : List D}
theorem Sh.tup (h : ∀ x ∈ xs, Sh B n k x) (hl : xs.length ≤ m) (hm : m ≤ 1000) (hn : m * (n + 1) ≤ n') (hk : k + 1 ≤ k') : Sh B n' k' (.tup xs) := by
  have s := ShL.all h
  have hw : xs.length * (n + 1) ≤ n' := Nat.le_trans (Nat.mul_le_mul_right _ hl) hn
  refine ⟨?_, s.pl, s.sw, s.lv, Nat.le_trans s.wt hw, ?_⟩
  · show (decide (xs.length ≤ 1000) && D.wfL xs) = true
    rw [s.wf, Bool.and_true, decide_eq_true_eq]
    omega
  · show PyData.depthAll (D.pyL xs) + 1 ≤ k'
    have := s.dp
    omega
theorem Sh.lst (h : ∀ x ∈ xs, Sh B n k x) (hl : xs.length ≤ m) (hm : m ≤ 1000) (hn : m * (n + 1) ≤ n') (hk : k + 1 ≤ k') : Sh B n' k' (.lst xs) := by
  have s := ShL.all h
  have hw : xs.length * (n + 1) ≤ n' := Nat.le_trans (Nat.mul_le_mul_right _ hl) hn
  refine ⟨?_, s.pl, s.sw, s.lv, Nat.le_trans s.wt hw, ?_⟩
  · show (decide (xs.length ≤ 1000) && D.wfL xs) = true
    rw [s.wf, Bool.and_true, decide_eq_true_eq]
    omega
  · show PyData.depthAll (D.pyL xs) + 1 ≤ k'
    have := s.dp
    omega
/-- a dict of one written key -/
theorem Sh.dic1 {z : Str} {d : D} (h : Sh B n k d) (hz : shB B m 0 (.str z) = true) (hn : m + n + 2 ≤ n') (hk : k + 1 ≤ k') : Sh B n' k' (.dic [(.inr z, d)]) := by
  have s := Sh.of hz
  refine ⟨?_, Bool.and_eq_true_iff.mpr ⟨h.pl, rfl⟩, ?_, ?_, ?_, ?_⟩
  · show (true && (d.wf && true)) = true
    rw [h.wf]; rfl
  · show (PyData.showable (.str z) && d.py.showable && true) = true
    rw [h.sw]; rfl
  · show (PyData.leavesShort B (.str z) && d.py.leavesShort B && true) = true
    rw [h.lv, show PyData.leavesShort B (.str z) = true from s.lv]; rfl
  · show PyData.weight (.str z) + PyData.weight d.py + 2 + 0 ≤ n'
    have := h.wt
    have h2 : PyData.weight (.str z) ≤ m := s.wt
    omega
  · show max (max (PyData.depth (.str z)) d.py.depth) 0 + 1 ≤ k'
    have := h.dp
    have h2 : PyData.depth (.str z) ≤ 0 := s.dp
    omega
theorem Sh.bl {b : Bool} : Sh B n k (.bl b) := ⟨rfl, rfl, rfl, rfl, Nat.zero_le _, Nat.zero_le _⟩
theorem Sh.non : Sh B n k .non := ⟨rfl, rfl, rfl, rfl, Nat.zero_le _, Nat.zero_le _⟩
theorem log2_le : ∀ (m n : Nat), n < 2 ^ (m + 1) → n.log2 ≤ m := fun m n h => by
  by_cases z : n = 0
  · subst z; exact Nat.zero_le _
  · exact Nat.le_of_lt_succ ((Nat.log2_lt z).mpr h)
theorem Sh.int {i : Int} (h : i.natAbs < 10 ^ 15) (hn : 60 ≤ n) (hB : 16 ≤ B) : Sh B n k (.int i) := by
  have h1 : i.natAbs.log2 ≤ 50 := log2_le 50 _ (Nat.lt_trans h (by decide))
  refine ⟨rfl, rfl, ?_, ?_, ?_, Nat.zero_le _⟩
  · show decide (i.natAbs.log2 < 1920) = true
    rw [decide_eq_true_eq]; omega
  · show decide ((PyData.shown (.int i)).length ≤ B) = true
    have e := int_text_length_le10 (k := 15) (by decide) h
    have e2 : (PyData.shown (.int i)).length ≤ 16 := by
      show (Str.ofString (toString i)).length ≤ 16
      rw [PySem.ofString_length]; exact e
    rw [decide_eq_true_eq]; omega
  · show (if (i == 0) = true then 0 else i.natAbs.log2 + 1) ≤ n
    split <;> omega
theorem Sh.shw {d : D} (h : Sh B n k d) (hB : 8 ≤ B) (hw : (B + 2) * n + B ≤ sizeLine) (hk : k ≤ 60) : shwOk d = true := by
  unfold shwOk
  have e := PyData.shown_le B hB d.py h.lv
  have e2 : (B + 2) * d.py.weight ≤ (B + 2) * n := Nat.mul_le_mul_left _ h.wt
  rw [h.pl, h.sw, Bool.true_and, Bool.true_and, Bool.and_eq_true, decide_eq_true_eq, decide_eq_true_eq]
  have := h.dp
  omega
theorem Sh.repr {d : D} (h : Sh B n k d) (hB : 8 ≤ B) (hw : (B + 2) * n + B ≤ sizeLine) (hk : k ≤ 60) : reprD d = some (.str d.py.shown) := by
  unfold reprD
  rw [if_pos (h.shw hB hw hk)]
end
/-! ## weak readings of draws -/
theorem mul_ok {a b : Int} (h : -(2 ^ 64) < b ∧ b < 2 ^ 64) : mulD2 (.int a) (.int b) = some (.int (a * b)) := by
  show mulD (.int a) (.int b) = _
  unfold mulD
  exact if_pos (.inr h)
theorem cut {W : Wo} {te : DT W} {ρ : Rho} {ω : W.Om} {Q : D → W.Om → Prop} (I : D → W.Om → Prop) (h : ∀ Q' : D → W.Om → Prop, (∀ d ω', I d ω' → Q' d ω') → te ρ ω Q') (h2 : ∀ d ω', I d ω' → Q d ω') : te ρ ω Q := h Q h2
theorem ite_i {b : Bool} {A B : Prop} (h1 : b = true → A) (h2 : b = false → B) : if b = true then A else B := by
  cases b
  · exact h2 rfl
  · exact h1 rfl
theorem eqi {a b : Int} : eqD2 (.int a) (.int b) = some (.bl (decide (a = b))) := rfl
theorem eqs {a b : Str} : eqD2 (.str a) (.str b) = some (.bl (decide (a = b))) := rfl
end Tk

namespace Tk
open PySem PySem.Spec PyProof.Rows L2
/-! ## laws with a pen -/
def penSp (K : PySem.W.Frag) (n : Nat) : Sp := fun vs H Q _ => ∃ (a : Addr) (ns : List Int), vs = [.ref a] ∧ SqL K H a (ns.map V.int) ∧
  ∀ (p c : Addr) (cells : List Int) (H' : Hp), H p = none → H c = none → cells.length ≤ n → (∀ b o, H b = some o → H' b = some o) → H' p = some (.dK (penK c 0 0)) → H' c = some (.lst (cells.map V.int)) → Q (.ref p) H'
theorem cutV_ints (ns : List Int) (lo hi : Option Int) : cutV (ns.map V.int) lo hi = ((ns.drop (HT.sIx ns.length 0 lo)).take (HT.sIx ns.length ns.length hi - HT.sIx ns.length 0 lo)).map V.int := by
  unfold cutV
  rw [List.length_map, List.map_take, List.map_drop]
theorem sqL_mono {K : PySem.W.Frag} {H H' : Hp} {a : Addr} {xs : List V} (h : SqL K H a xs) (e : ∀ b o, H b = some o → H' b = some o) : SqL K H' a xs :=
  h.elim (fun h => .inl (h.elim (fun h => .inl (e _ _ h)) fun ⟨o, h⟩ => .inr ⟨o, e _ _ h⟩)) fun h => .inr h
theorem cutI {W : Wo} {c : DB W} {a b u : DTS W} {D0 : DEnds W} {ρ : Rho} {ω : W.Om} (I : Rho → W.Om → Prop) (h : ∀ nx' : Rho → W.Om → Prop, (∀ ρ' ω', I ρ' ω' → nx' ρ' ω') → dIfS c a b { D0 with nx := nx' } ρ ω) (h2 : ∀ ρ' ω', I ρ' ω' → u D0 ρ' ω') : dSeq (dIfS c a b) u D0 ρ ω :=
  h (u D0) h2
theorem nes_same {a : Str} : neD (.str a) (.str a) = some (.bl false) := by
  have e : neD (.str a) (.str a) = some (.bl (!decide (a = a))) := rfl
  rw [e, decide_eq_true rfl]
  rfl
/-- a law that ends True -/
def lawSp (K : PySem.W.Frag) : Sp := fun vs H Q _ => ∃ (a : Addr) (ns : List Int), vs = [.ref a] ∧ SqL K H a (ns.map V.int) ∧ ∀ H', Q (.bl true) H'
theorem lawSp_of (K : PySem.W.Frag) (H : Hp) (a : Addr) (ns : List Int) {n : Nat} (_ : ns.length ≤ n) (_ : Only H) (h : SqL K H a (ns.map V.int)) : lawSp K [.ref a] H (fun v _ => v = .bl true) fun _ _ _ => False :=
  ⟨a, ns, rfl, h, fun _ => rfl⟩
/-- the rest of a law, once the pen is made -/
theorem pen_go {t : ∀ p, DTS (PenW p)} {nx : List (Option V) → Hp → Prop} {Q : VK} {p c a : Addr} {cells : List Int} {n : Nat} {H' : Hp} (hp : H' p = some (.dK (penK c 0 0))) (hc : H' c = some (.lst (cells.map V.int))) (hl : cells.length ≤ 63)
    (q : ∀ H', Q (.bl true) H') (h : t p { nx := fun _ _ => False, rt := fun d _ => d = .bl true } (none :: some (.d (.ob p)) :: List.replicate n none) 0) : ∃ i, tS (PenW i) (t i) { nx := nx, rt := Q } (some (.ref a) :: some (.ref p) :: List.replicate n none) H' := by
  have ne : c ≠ p := fun e => by subst e; rw [hp] at hc; cases hc
  refine ⟨p, ⟨H', fun b => b = p⟩, fun b => b = p, _, (0 : Nat), { nx := fun _ _ => False, rt := fun d _ => d = .bl true }, ?_, h, ?_⟩
  · refine ⟨⟨c, cells, 0, 0, fun m => m.2 rfl, fun m => ne m.1, hp, hc, hl, Int.le_refl _, Int.le_refl _, Int.le_refl _⟩, fun _ h => h, fun _ h => h, fun _ h => .inl h, ?_, ?_, Kp.refl, by simp, ?_, ?_, ?_⟩
    · intro b e; show H' b ≠ none; rw [show b = p from e, hp]; exact fun z => nomatch z
    · intro b e; show H' b ≠ none; rw [show b = p from e, hp]; exact fun z => nomatch z
    · intro i z e
      match i, e with
      | 0, e => cases e
      | 1, e => cases e; exact ⟨_, rfl, .ob p⟩
      | i + 2, e =>
        have e' : (List.replicate n (none : Option Sl))[i]? = some (some z) := e
        rw [List.getElem?_replicate] at e'
        split at e' <;> cases e'
    · intro i j z y b ei ej hz
      match i, ei with
      | 0, e => cases e
      | 1, e => cases e; cases hz
      | i + 2, e =>
        have e' : (List.replicate n (none : Option Sl))[i]? = some (some z) := e
        rw [List.getElem?_replicate] at e'
        split at e' <;> cases e'
    · intro i z b ei hz
      match i, ei with
      | 0, e => cases e
      | 1, e => cases e; cases hz
      | i + 2, e =>
        have e' : (List.replicate n (none : Option Sl))[i]? = some (some z) := e
        rw [List.getElem?_replicate] at e'
        split at e' <;> cases e'
  · refine ⟨fun σ H ⟨_, _, _, _, _, z⟩ => z.elim, fun v H ⟨d, ω', _, _, h1, h2⟩ => ?_, fun σ H ⟨_, _, _, _, _, z⟩ => z.elim, fun σ H ⟨_, _, _, _, _, z⟩ => z.elim⟩
    subst h2
    cases h1
    exact q _
end Tk

namespace Law
open PySem PySem.Spec PyProof.Rows L2 Tk
def topS (i : Nat) : Stmt := PySem.Challenge.pw_tablekin_k01_things_or_not.main.body.getD i (.Pass ⟨0, 0, 0, 0⟩)
abbrev st_is_whole : Stmt := topS 5
abbrev st_is_number : Stmt := topS 6
abbrev st_is_word : Stmt := topS 7
abbrev st_is_name : Stmt := topS 8
abbrev st_is_cell : Stmt := topS 9
abbrev st_is_deep_thing : Stmt := topS 10
abbrev st_is_thing : Stmt := topS 11
abbrev st_l_pen : Stmt := topS 13
abbrev st_l_draw : Stmt := topS 14
abbrev st_l_pick : Stmt := topS 15
abbrev st_l_cell : Stmt := topS 16
abbrev st_l_odd : Stmt := topS 17
abbrev st_l_nested : Stmt := topS 18
abbrev st_l_thing : Stmt := topS 19
abbrev st_l_whole : Stmt := topS 20
abbrev st_l_letters : Stmt := topS 21
abbrev st_l_is_cell : Stmt := topS 22
abbrev st_l_is_thing : Stmt := topS 23
abbrev st_law : Stmt := topS 24
theorem sc_is_whole : FnScope ["thing"] ["thing"] (defScope st_is_whole) := ⟨rfl, rfl, rfl, by decide +kernel, rfl, by decide +kernel, by decide +kernel⟩
theorem sc_is_number : FnScope ["thing", "low", "high"] ["thing", "low", "high"] (defScope st_is_number) := ⟨rfl, rfl, rfl, by decide +kernel, rfl, by decide +kernel, by decide +kernel⟩
theorem sc_is_word : FnScope ["thing", "most", "sign"] ["thing", "most"] (defScope st_is_word) := ⟨rfl, rfl, rfl, by decide +kernel, rfl, by decide +kernel, by decide +kernel⟩
theorem sc_is_name : FnScope ["thing"] ["thing"] (defScope st_is_name) := ⟨rfl, rfl, rfl, by decide +kernel, rfl, by decide +kernel, by decide +kernel⟩
theorem sc_is_cell : FnScope ["thing"] ["thing"] (defScope st_is_cell) := ⟨rfl, rfl, rfl, by decide +kernel, rfl, by decide +kernel, by decide +kernel⟩
theorem sc_is_deep_thing : FnScope ["thing", "deep", "part"] ["thing", "deep"] (defScope st_is_deep_thing) := ⟨rfl, rfl, rfl, by decide +kernel, rfl, by decide +kernel, by decide +kernel⟩
theorem sc_is_thing : FnScope ["thing"] ["thing"] (defScope st_is_thing) := ⟨rfl, rfl, rfl, by decide +kernel, rfl, by decide +kernel, by decide +kernel⟩
theorem sc_l_pen : FnScope ["_law_script"] ["_law_script"] (defScope st_l_pen) := ⟨rfl, rfl, rfl, by decide +kernel, rfl, by decide +kernel, by decide +kernel⟩
theorem sc_l_draw : FnScope ["_law_pen_here", "_law_many", "_law_digit", "_law_turn", "_law_cell_here", "_law_primes", "_law_prime", "_law_drawn"] ["_law_pen_here", "_law_many"] (defScope st_l_draw) := ⟨rfl, rfl, rfl, by decide +kernel, rfl, by decide +kernel, by decide +kernel⟩
theorem sc_l_pick : FnScope ["_law_pen_here", "_law_some"] ["_law_pen_here", "_law_some"] (defScope st_l_pick) := ⟨rfl, rfl, rfl, by decide +kernel, rfl, by decide +kernel, by decide +kernel⟩
theorem sc_l_cell : FnScope ["_law_pen_here", "_law_great", "_law_some"] ["_law_pen_here"] (defScope st_l_cell) := ⟨rfl, rfl, rfl, by decide +kernel, rfl, by decide +kernel, by decide +kernel⟩
theorem sc_l_odd : FnScope ["_law_pen_here", "_law_deep", "_law_inner", "_law_some", "_law_k"] ["_law_pen_here", "_law_deep"] (defScope st_l_odd) := ⟨rfl, rfl, rfl, by decide +kernel, rfl, by decide +kernel, by decide +kernel⟩
theorem sc_l_nested : FnScope ["_law_thing_here", "_law_deep", "_law_k"] ["_law_thing_here", "_law_deep"] (defScope st_l_nested) := ⟨rfl, rfl, rfl, by decide +kernel, rfl, by decide +kernel, by decide +kernel⟩
theorem sc_l_thing : FnScope ["_law_pen_here", "_law_deep", "_law_k"] ["_law_pen_here", "_law_deep"] (defScope st_l_thing) := ⟨rfl, rfl, rfl, by decide +kernel, rfl, by decide +kernel, by decide +kernel⟩
theorem sc_l_whole : FnScope ["_law_thing_here", "_law_low", "_law_high"] ["_law_thing_here", "_law_low", "_law_high"] (defScope st_l_whole) := ⟨rfl, rfl, rfl, by decide +kernel, rfl, by decide +kernel, by decide +kernel⟩
theorem sc_l_letters : FnScope ["_law_thing_here", "_law_most", "_law_sign"] ["_law_thing_here", "_law_most"] (defScope st_l_letters) := ⟨rfl, rfl, rfl, by decide +kernel, rfl, by decide +kernel, by decide +kernel⟩
theorem sc_l_is_cell : FnScope ["_law_thing_here"] ["_law_thing_here"] (defScope st_l_is_cell) := ⟨rfl, rfl, rfl, by decide +kernel, rfl, by decide +kernel, by decide +kernel⟩
theorem sc_l_is_thing : FnScope ["_law_thing_here", "_law_deep", "_law_part"] ["_law_thing_here", "_law_deep"] (defScope st_l_is_thing) := ⟨rfl, rfl, rfl, by decide +kernel, rfl, by decide +kernel, by decide +kernel⟩
theorem sc_law : FnScope ["_law_script", "_law_pen_here", "_law_turn", "_law_thing_here", "_law_way", "_law_kept", "_law_due", "_law_again", "_law_found"] ["_law_script"] (defScope st_law) := ⟨rfl, rfl, rfl, by decide +kernel, rfl, by decide +kernel, by decide +kernel⟩
/-- the names of the module that stand for themselves -/
structure Tb (mg : Str → Option Value) : Prop where
  abs : mg "abs" = none
  all : mg "all" = none
  bool : mg "bool" = none
  int : mg "int" = none
  isinstance : mg "isinstance" = none
  len : mg "len" = none
  list : mg "list" = none
  range : mg "range" = none
  repr : mg "repr" = none
  str : mg "str" = none
  tuple : mg "tuple" = none
  c_LETTERS : ∃ t, mg "LETTERS" = some (.str "abcdefghijklmnopqrstuvwxyz" t)
  c_MOST_LETTERS : ∃ t, mg "MOST_LETTERS" = some (.int 12 t)
  c_MOST_DEPTH : ∃ t, mg "MOST_DEPTH" = some (.int 12 t)
section
variable {P : Program} {w : World} {K : PySem.W.Frag} {mg : Str → Option Value} {base : Heap}
/-! ## the pen: draw -/
theorem prime_at {i : Int} (h0 : 0 ≤ i) (h1 : i < 5) : ∃ q : Int, L2.atI [V.int 2147483647, V.int 2147483629, V.int 2147483587, V.int 2147483579, V.int 2147483563] i = some (.int q) ∧ 2147483563 ≤ q ∧ q ≤ 2147483647 := by
  have h : i = 0 ∨ i = 1 ∨ i = 2 ∨ i = 3 ∨ i = 4 := by omega
  rcases h with rfl | rfl | rfl | rfl | rfl
  · exact ⟨2147483647, rfl, by decide, by decide⟩
  · exact ⟨2147483629, rfl, by decide, by decide⟩
  · exact ⟨2147483587, rfl, by decide, by decide⟩
  · exact ⟨2147483579, rfl, by decide, by decide⟩
  · exact ⟨2147483563, rfl, by decide, by decide⟩
theorem ok_l_draw {f : Addr} {fd : FuncData} (D : Df K mg "_law_draw" st_l_draw ["_law_pen_here", "_law_many"] f fd) (T : Tb mg) (p : Addr) :
    FnG P w K mg base CX0 1 f fd ["_law_pen_here", "_law_many"] (spOf (PenW p) (drawS p)) := by
  refine okG D.F sc_l_draw (fun vs H Q E ⟨Ex, t, ds, Q0, _, _, _, q, ⟨many, e, _⟩, _⟩ => by rw [q.length, e]; rfl) (fun cdv A outer s H vs Q E gd hr ⟨Ex, t, ds, Q0, wo, mu, tr, q, ⟨many, e, m0, m1, ht, k⟩, fin⟩ => ?_)
  subst e
  obtain ⟨v0, r0⟩ : ∃ v, v = vs := ⟨_, rfl⟩
  have ev : vs = [.ref p, .int many] := by
    cases q with
    | cons a b => cases b with | cons c d => cases d; cases a; cases c; rfl
  subst ev
  obtain ⟨c, cells, turn, rest, n1, n2, hp, hc, hl, t0, t1, rest0⟩ := wo
  have hu : _ + 1 < cLine := hu_of hr
  have hu64 := hr.units
  have npc : p ≠ c := ne_of hp hc (by intro z; cases z)
  have nEc : ¬ Ex c := fun m => n2 ⟨m, fun e => npc e.symm⟩
  -- the end: the pen has turned, all else stands
  have done : ∀ (x turn' rest' : Int) (H' : Hp), 0 ≤ x → x < many → 0 ≤ turn' → turn' ≤ turn + 1 → 0 ≤ rest' → H' p = some (.dK (penK c turn' rest')) → (∀ b o, H b = some o → b ≠ p → H' b = some o) → Q (.int x) H' := by
    intro x turn' rest' H' x0 x1 a0 a1 a2 hp' kp
    refine fin (.int x) (t + 1) (.int x) H' (k x x0 x1) (fun b o e n => kp b o e n) ⟨c, cells, turn', rest', n1, n2, hp', kp c _ hc npc.symm, hl, a0, by omega, a2⟩ (.int x)
  refine ⟨_, pss_cons (ps_if (pt_cmpR op_gt (pe_dget hu (pv 0) pe_str (fun _ _ => rfl)) pe_int (nomark _))
      (pss_cons (ps_set (i := 2) sc_l_draw.nd rfl (.inl rfl) (pe_op op_mod (pe_dget hu (pv 0) pe_str (fun _ _ => rfl)) (pv 1)))
      (pss_cons (ps_dput hu (pv 0) pe_str (pe_op op_fdiv (pe_dget hu (pv 0) pe_str (fun _ _ => rfl)) (pv 1)) rfl)
      (pss_one (ps_ret (pv 2))))) pss_nil)
    (pss_cons (ps_set (i := 3) sc_l_draw.nd rfl (.inl rfl) (pe_dget hu (pv 0) pe_str (fun _ _ => rfl)))
    (pss_cons (ps_dput hu (pv 0) pe_str (pe_op op_add (pv 3) pe_int) rfl)
    (pss_cons (ps_set (i := 4) sc_l_draw.nd rfl (.inl rfl) (pe_op op_add (pe_op op_mul pe_int (pv 3)) pe_int))
    (pss_cons (ps_if (pt_cmpR (op_neD hu64) (pe_dget hu (pv 0) pe_str (fun _ _ => rfl)) (pe_lst pa_nil) (nomark _))
      (pss_one (ps_set (i := 4) sc_l_draw.nd rfl (.inl rfl) (pe_ix ix_list (pe_dget hu (pv 0) pe_str (fun _ _ => rfl)) (pe_op op_mod (pv 3) (pe_callB call_len rfl T.len (by decide +kernel) (pa_cons (pe_dget hu (pv 0) pe_str (fun _ _ => rfl)) pa_nil))) (fun _ _ => rfl)))) pss_nil)
    (pss_cons (ps_if (PW.pt (pw_and (pt_cmpR op_lt (pv 3) (pe_callB call_len rfl T.len (by decide +kernel) (pa_cons (pe_dget hu (pv 0) pe_str (fun _ _ => rfl)) pa_nil)) (nomark _)) (pw_and1 (pt_cmpR op_ge (pe_callB call_abs rfl T.abs (by decide +kernel) (pa_cons (pv 4) pa_nil)) (pe_op op_pow pe_int pe_int) (nomark _)))))
      (pss_cons (ps_dput hu (pv 0) pe_str (pe_op op_fdiv (pe_op op_sub (pe_callB call_abs rfl T.abs (by decide +kernel) (pa_cons (pv 4) pa_nil)) (pe_op op_pow pe_int pe_int)) (pv 1)) rfl)
      (pss_one (ps_ret (pe_op op_mod (pe_op op_sub (pe_callB call_abs rfl T.abs (by decide +kernel) (pa_cons (pv 4) pa_nil)) (pe_op op_pow pe_int pe_int)) (pv 1))))) pss_nil)
    (pss_cons (ps_set (i := 5) sc_l_draw.nd rfl (.inl rfl) (pe_lst (pa_cons pe_int (pa_cons pe_int (pa_cons pe_int (pa_cons pe_int (pa_cons pe_int pa_nil)))))))
    (pss_cons (ps_set (i := 6) sc_l_draw.nd rfl (.inl rfl) (pe_ix ix_list (pv 5) (pe_op op_mod (pv 3) pe_int) (fun _ _ => rfl)))
    (pss_cons (ps_set (i := 7) sc_l_draw.nd rfl (.inl rfl) (pe_op op_mod (pe_op op_add (pe_op op_add (pe_op op_mul (pe_op op_mod (pv 4) (pv 6)) pe_int) (pe_op op_mul (pe_op op_mul pe_int (pv 3)) (pv 3))) pe_int) (pv 6)))
    (pss_cons (ps_set (i := 7) sc_l_draw.nd rfl (.inl rfl) (pe_op op_mod (pe_op op_mul (pv 7) (pe_op op_add (pv 7) pe_int)) (pe_ix ix_list (pv 5) (pe_op op_mod (pe_op op_add (pv 3) pe_int) pe_int) (fun _ _ => rfl))))
    (pss_one (ps_ret (pe_op op_mod (pe_op op_fdiv (pe_op op_mod (pe_op op_mul (pv 7) (pv 7)) pe_int) pe_int) (pv 1))))))))))))), ?_⟩
  -- if pen['rest'] > 0
  refine ⟨.ref p, rfl, p, .int rest, rfl, by rw [← pen_rest (c := c) (t := turn)]; exact DGet.k (k := kR) hp, rest, 0, rfl, rfl, _, rfl, ?_⟩
  refine ite2 (fun hre => ?_) (fun hre => ?_)
  · have hre' : 0 < rest := of_decide_eq_true hre
    refine ⟨.ref p, rfl, p, .int rest, rfl, by rw [← pen_rest (c := c) (t := turn)]; exact DGet.k (k := kR) hp, .int many, rfl, rest, many, rfl, rfl, m0, ?_⟩
    refine ⟨.ref p, rfl, p, .int rest, rfl, by rw [← pen_rest (c := c) (t := turn)]; exact DGet.k (k := kR) hp, .int many, rfl, rest, many, rfl, rfl, ⟨m0, m1⟩, ?_⟩
    refine ⟨.ref p, rfl, p, _, rfl, DPut.k (k := kR) hp (by show 3 < sizeLine; decide), ?_⟩
    refine ⟨_, rfl, ?_⟩
    rw [pen_putR]
    exact done (rest % many) turn (rest / many) _ (Int.emod_nonneg _ (by omega)) (Int.emod_lt_of_pos _ m0) t0 (by omega) (Int.ediv_nonneg (by omega) (by omega)) upd_same (fun b o e n => by rw [upd_ne n]; exact e)
  -- turn = pen['turn']; pen['turn'] = turn + 1
  refine ⟨.ref p, rfl, p, .int turn, rfl, by rw [← pen_turn (c := c) (r := rest)]; exact DGet.k (k := kT) hp, ?_⟩
  refine ⟨.int turn, rfl, turn, 1, rfl, rfl, ?_⟩
  refine ⟨.ref p, rfl, p, _, rfl, DPut.k (k := kT) hp (by show 3 < sizeLine; decide), ?_⟩
  rw [pen_putT]
  have hp1 : (upd H p (.dK (penK c (turn + 1) rest))) p = some (.dK (penK c (turn + 1) rest)) := upd_same
  have hc1 : (upd H p (.dK (penK c (turn + 1) rest))) c = some (.lst (cells.map V.int)) := by rw [upd_ne npc.symm]; exact hc
  have kp1 : ∀ b o, H b = some o → b ≠ p → (upd H p (.dK (penK c (turn + 1) rest))) b = some o := fun b o e n => by rw [upd_ne n]; exact e
  generalize upd H p (.dK (penK c (turn + 1) rest)) = H1 at hp1 hc1 kp1
  -- cell = 29 * turn + 7
  refine ⟨.int turn, rfl, 29, turn, rfl, rfl, .inl ⟨by decide, by decide⟩, _, _, rfl, rfl, ?_⟩
  -- if pen['cells'] != []
  refine ⟨.ref p, rfl, p, .ref c, rfl, by rw [← pen_cells (t := turn + 1) (r := rest)]; exact DGet.k (k := kC) hp1, Nat.zero_le _, fun q nq => ?_⟩
  have npq : p ≠ q := ne_of_none hp1 nq
  have ncq : c ≠ q := ne_of_none hc1 nq
  have hp2 : (upd H1 q (.lst [])) p = some (.dK (penK c (turn + 1) rest)) := by rw [upd_ne npq]; exact hp1
  have hc2 : (upd H1 q (.lst [])) c = some (.lst (cells.map V.int)) := by rw [upd_ne ncq]; exact hc1
  have kp2 : ∀ b o, H b = some o → b ≠ p → (upd H1 q (.lst [])) b = some o := fun b o e n => same_upd nq b o (kp1 b o e n)
  have hq2 : (upd H1 q (.lst [])) q = some (.lst []) := upd_same
  generalize upd H1 q (.lst []) = H2 at hp2 hc2 kp2 hq2
  refine ⟨.list (cells.map PyData.int), .list [], .lst (SqL.of hc2) (dp_ints cells), .lst (SqL.of hq2) .nil, shaped_ints cells, shaped_nil, _, rfl, ?_⟩
  rw [ne_nil_ints]
  refine ite2 (fun hne => ?_) (fun _ => ?_)
  · -- cell = pen['cells'][turn % len(pen['cells'])]
    have hlen : 0 < (cells.length : Int) := by
      cases hcs : cells with
      | nil => rw [hcs] at hne; cases hne
      | cons x xs => rw [List.length_cons]; omega
    have hm0 := Int.emod_nonneg turn (show (cells.length : Int) ≠ 0 by omega)
    have hm1 := Int.emod_lt_of_pos turn hlen
    have hat : ∃ x, L2.atI (cells.map V.int) (turn % (cells.length : Int)) = some (.int x) := by
      have hi : (turn % (cells.length : Int)).toNat < cells.length := by omega
      refine ⟨cells[(turn % (cells.length : Int)).toNat], ?_⟩
      have e1 : ((turn % (cells.length : Int)).toNat : Int) = turn % (cells.length : Int) := Int.toNat_of_nonneg hm0
      have e2 : (cells.map V.int)[(turn % (cells.length : Int)).toNat]? = some (.int cells[(turn % (cells.length : Int)).toNat]) := by
        rw [List.getElem?_map, List.getElem?_eq_getElem hi]
        rfl
      have e3 := L2.atI_nat e2
      rw [e1] at e3
      exact e3
    obtain ⟨x, hat⟩ := hat
    refine ⟨.ref p, rfl, p, .ref c, rfl, by rw [← pen_cells (t := turn + 1) (r := rest)]; exact DGet.k (k := kC) hp2, .int turn, rfl, .ref p, rfl, p, .ref c, rfl, by rw [← pen_cells (t := turn + 1) (r := rest)]; exact DGet.k (k := kC) hp2, .ref c, cells.length, rfl, .inl ⟨_, SqL.of hc2, by rw [List.length_map]⟩, turn, cells.length, rfl, rfl, hlen, c, _, turn % (cells.length : Int), .int x, rfl, rfl, SqL.of hc2, hat, ?_⟩
    generalize x = cell
    -- turn < len(pen['cells']) and abs(cell) >= 10 ** 18
    refine ⟨.int turn, rfl, .ref p, rfl, p, .ref c, rfl, by rw [← pen_cells (t := turn + 1) (r := rest)]; exact DGet.k (k := kC) hp2, .ref c, cells.length, rfl, .inl ⟨_, SqL.of hc2, by rw [List.length_map]⟩, turn, cells.length, rfl, rfl, _, rfl, ?_⟩
    refine ite2 (fun _ => ?_) (fun _ => ?_)
    · refine ⟨.int cell, rfl, cell, rfl, 10, 18, rfl, rfl, ⟨by decide, by decide, by decide⟩, _, _, rfl, rfl, _, rfl, ?_⟩
      refine ite2 (fun hb => ?_) (fun _ => ?_)
      · have hb' : (10 : Int) ^ (18 : Int).toNat ≤ (if cell < 0 then -cell else cell) := of_decide_eq_true hb
        refine ⟨.int cell, rfl, cell, rfl, 10, 18, rfl, rfl, ⟨by decide, by decide, by decide⟩, _, _, rfl, rfl, .int many, rfl, _, many, rfl, rfl, ⟨m0, m1⟩, ?_⟩
        refine ⟨.ref p, rfl, p, _, rfl, DPut.k (k := kR) hp2 (by show 3 < sizeLine; decide), ?_⟩
        refine ⟨.int cell, rfl, cell, rfl, 10, 18, rfl, rfl, ⟨by decide, by decide, by decide⟩, _, _, rfl, rfl, .int many, rfl, _, many, rfl, rfl, m0, ?_⟩
        rw [pen_putR]
        exact done _ (turn + 1) _ _ (Int.emod_nonneg _ (by omega)) (Int.emod_lt_of_pos _ m0) (by omega) (by omega) (Int.ediv_nonneg (Int.sub_nonneg_of_le hb') (by omega)) upd_same (fun b o e n => by rw [upd_ne n]; exact kp2 b o e n)
      ·
        -- the primes
        refine ⟨Nat.le_of_lt (by decide), fun a na => ?_⟩
        have npa : p ≠ a := ne_of_none hp2 na
        have nca : c ≠ a := ne_of_none hc2 na
        have ha : (upd H2 a (.lst [V.int 2147483647, V.int 2147483629, V.int 2147483587, V.int 2147483579, V.int 2147483563])) a = some (.lst [V.int 2147483647, V.int 2147483629, V.int 2147483587, V.int 2147483579, V.int 2147483563]) := upd_same
        have hp4 : (upd H2 a (.lst [V.int 2147483647, V.int 2147483629, V.int 2147483587, V.int 2147483579, V.int 2147483563])) p = some (.dK (penK c (turn + 1) rest)) := by rw [upd_ne npa]; exact hp2
        have kp4 : ∀ b o, H b = some o → b ≠ p → (upd H2 a (.lst [V.int 2147483647, V.int 2147483629, V.int 2147483587, V.int 2147483579, V.int 2147483563])) b = some o := fun b o e n => same_upd na b o (kp2 b o e n)
        generalize upd H2 a (.lst [V.int 2147483647, V.int 2147483629, V.int 2147483587, V.int 2147483579, V.int 2147483563]) = H4 at ha hp4 kp4
        obtain ⟨pr, epr, pr0, pr1⟩ := prime_at (i := turn % 5) (Int.emod_nonneg _ (by decide)) (Int.emod_lt_of_pos _ (by decide))
        obtain ⟨ps, eps, ps0, ps1⟩ := prime_at (i := (turn + 2) % 5) (Int.emod_nonneg _ (by decide)) (Int.emod_lt_of_pos _ (by decide))
        refine ⟨.ref a, rfl, .int turn, rfl, turn, 5, rfl, rfl, (by decide : (0 : Int) < 5), a, _, turn % 5, .int pr, rfl, rfl, SqL.of ha, epr, ?_⟩
        have c0 := Int.emod_nonneg cell (show pr ≠ 0 by omega)
        have c1 := Int.emod_lt_of_pos cell (show 0 < pr by omega)
        refine ⟨.int cell, rfl, .int pr, rfl, cell, pr, rfl, rfl, (by omega : 0 < pr), cell % pr, 48271, rfl, rfl, .inl ⟨by omega, by omega⟩, .int turn, rfl, 39373, turn, rfl, rfl, .inl ⟨by decide, by decide⟩, .int turn, rfl, 39373 * turn, turn, rfl, rfl, .inr ⟨by omega, by omega⟩, _, _, rfl, rfl, _, 13, rfl, rfl, .int pr, rfl, _, pr, rfl, rfl, (by omega : 0 < pr), ?_⟩
        dsimp only
        generalize hz : (cell % pr * 48271 + 39373 * turn * turn + 13) % pr = z
        have z0 : 0 ≤ z := by rw [← hz]; exact Int.emod_nonneg _ (by omega)
        have z1 : z < pr := by rw [← hz]; exact Int.emod_lt_of_pos _ (by omega)
        refine ⟨.int z, rfl, .int z, rfl, z, 69621, rfl, rfl, z, z + 69621, rfl, rfl, .inl ⟨by omega, by omega⟩, .ref a, rfl, .int turn, rfl, turn, 2, rfl, rfl, turn + 2, 5, rfl, rfl, (by decide : (0 : Int) < 5), a, _, (turn + 2) % 5, .int ps, rfl, rfl, SqL.of ha, eps, _, ps, rfl, rfl, (by omega : 0 < ps), ?_⟩
        dsimp only
        generalize hy : z * (z + 69621) % ps = y
        have y0 : 0 ≤ y := by rw [← hy]; exact Int.emod_nonneg _ (by omega)
        have y1 : y < ps := by rw [← hy]; exact Int.emod_lt_of_pos _ (by omega)
        refine ⟨.int y, rfl, .int y, rfl, y, y, rfl, rfl, .inl ⟨by omega, by omega⟩, _, 2147483549, rfl, rfl, (by decide : (0 : Int) < 2147483549), _, 64, rfl, rfl, ⟨by decide, by decide⟩, .int many, rfl, _, many, rfl, rfl, m0, ?_⟩
        exact done _ (turn + 1) rest H4 (Int.emod_nonneg _ (by omega)) (Int.emod_lt_of_pos _ m0) (by omega) (by omega) rest0 hp4 kp4
    ·
      -- the primes
      refine ⟨Nat.le_of_lt (by decide), fun a na => ?_⟩
      have npa : p ≠ a := ne_of_none hp2 na
      have nca : c ≠ a := ne_of_none hc2 na
      have ha : (upd H2 a (.lst [V.int 2147483647, V.int 2147483629, V.int 2147483587, V.int 2147483579, V.int 2147483563])) a = some (.lst [V.int 2147483647, V.int 2147483629, V.int 2147483587, V.int 2147483579, V.int 2147483563]) := upd_same
      have hp4 : (upd H2 a (.lst [V.int 2147483647, V.int 2147483629, V.int 2147483587, V.int 2147483579, V.int 2147483563])) p = some (.dK (penK c (turn + 1) rest)) := by rw [upd_ne npa]; exact hp2
      have kp4 : ∀ b o, H b = some o → b ≠ p → (upd H2 a (.lst [V.int 2147483647, V.int 2147483629, V.int 2147483587, V.int 2147483579, V.int 2147483563])) b = some o := fun b o e n => same_upd na b o (kp2 b o e n)
      generalize upd H2 a (.lst [V.int 2147483647, V.int 2147483629, V.int 2147483587, V.int 2147483579, V.int 2147483563]) = H4 at ha hp4 kp4
      obtain ⟨pr, epr, pr0, pr1⟩ := prime_at (i := turn % 5) (Int.emod_nonneg _ (by decide)) (Int.emod_lt_of_pos _ (by decide))
      obtain ⟨ps, eps, ps0, ps1⟩ := prime_at (i := (turn + 2) % 5) (Int.emod_nonneg _ (by decide)) (Int.emod_lt_of_pos _ (by decide))
      refine ⟨.ref a, rfl, .int turn, rfl, turn, 5, rfl, rfl, (by decide : (0 : Int) < 5), a, _, turn % 5, .int pr, rfl, rfl, SqL.of ha, epr, ?_⟩
      have c0 := Int.emod_nonneg cell (show pr ≠ 0 by omega)
      have c1 := Int.emod_lt_of_pos cell (show 0 < pr by omega)
      refine ⟨.int cell, rfl, .int pr, rfl, cell, pr, rfl, rfl, (by omega : 0 < pr), cell % pr, 48271, rfl, rfl, .inl ⟨by omega, by omega⟩, .int turn, rfl, 39373, turn, rfl, rfl, .inl ⟨by decide, by decide⟩, .int turn, rfl, 39373 * turn, turn, rfl, rfl, .inr ⟨by omega, by omega⟩, _, _, rfl, rfl, _, 13, rfl, rfl, .int pr, rfl, _, pr, rfl, rfl, (by omega : 0 < pr), ?_⟩
      dsimp only
      generalize hz : (cell % pr * 48271 + 39373 * turn * turn + 13) % pr = z
      have z0 : 0 ≤ z := by rw [← hz]; exact Int.emod_nonneg _ (by omega)
      have z1 : z < pr := by rw [← hz]; exact Int.emod_lt_of_pos _ (by omega)
      refine ⟨.int z, rfl, .int z, rfl, z, 69621, rfl, rfl, z, z + 69621, rfl, rfl, .inl ⟨by omega, by omega⟩, .ref a, rfl, .int turn, rfl, turn, 2, rfl, rfl, turn + 2, 5, rfl, rfl, (by decide : (0 : Int) < 5), a, _, (turn + 2) % 5, .int ps, rfl, rfl, SqL.of ha, eps, _, ps, rfl, rfl, (by omega : 0 < ps), ?_⟩
      dsimp only
      generalize hy : z * (z + 69621) % ps = y
      have y0 : 0 ≤ y := by rw [← hy]; exact Int.emod_nonneg _ (by omega)
      have y1 : y < ps := by rw [← hy]; exact Int.emod_lt_of_pos _ (by omega)
      refine ⟨.int y, rfl, .int y, rfl, y, y, rfl, rfl, .inl ⟨by omega, by omega⟩, _, 2147483549, rfl, rfl, (by decide : (0 : Int) < 2147483549), _, 64, rfl, rfl, ⟨by decide, by decide⟩, .int many, rfl, _, many, rfl, rfl, m0, ?_⟩
      exact done _ (turn + 1) rest H4 (Int.emod_nonneg _ (by omega)) (Int.emod_lt_of_pos _ m0) (by omega) (by omega) rest0 hp4 kp4
  · dsimp only
    generalize 29 * turn + 7 = cell
    -- turn < len(pen['cells']) and abs(cell) >= 10 ** 18
    refine ⟨.int turn, rfl, .ref p, rfl, p, .ref c, rfl, by rw [← pen_cells (t := turn + 1) (r := rest)]; exact DGet.k (k := kC) hp2, .ref c, cells.length, rfl, .inl ⟨_, SqL.of hc2, by rw [List.length_map]⟩, turn, cells.length, rfl, rfl, _, rfl, ?_⟩
    refine ite2 (fun _ => ?_) (fun _ => ?_)
    · refine ⟨.int cell, rfl, cell, rfl, 10, 18, rfl, rfl, ⟨by decide, by decide, by decide⟩, _, _, rfl, rfl, _, rfl, ?_⟩
      refine ite2 (fun hb => ?_) (fun _ => ?_)
      · have hb' : (10 : Int) ^ (18 : Int).toNat ≤ (if cell < 0 then -cell else cell) := of_decide_eq_true hb
        refine ⟨.int cell, rfl, cell, rfl, 10, 18, rfl, rfl, ⟨by decide, by decide, by decide⟩, _, _, rfl, rfl, .int many, rfl, _, many, rfl, rfl, ⟨m0, m1⟩, ?_⟩
        refine ⟨.ref p, rfl, p, _, rfl, DPut.k (k := kR) hp2 (by show 3 < sizeLine; decide), ?_⟩
        refine ⟨.int cell, rfl, cell, rfl, 10, 18, rfl, rfl, ⟨by decide, by decide, by decide⟩, _, _, rfl, rfl, .int many, rfl, _, many, rfl, rfl, m0, ?_⟩
        rw [pen_putR]
        exact done _ (turn + 1) _ _ (Int.emod_nonneg _ (by omega)) (Int.emod_lt_of_pos _ m0) (by omega) (by omega) (Int.ediv_nonneg (Int.sub_nonneg_of_le hb') (by omega)) upd_same (fun b o e n => by rw [upd_ne n]; exact kp2 b o e n)
      ·
        -- the primes
        refine ⟨Nat.le_of_lt (by decide), fun a na => ?_⟩
        have npa : p ≠ a := ne_of_none hp2 na
        have nca : c ≠ a := ne_of_none hc2 na
        have ha : (upd H2 a (.lst [V.int 2147483647, V.int 2147483629, V.int 2147483587, V.int 2147483579, V.int 2147483563])) a = some (.lst [V.int 2147483647, V.int 2147483629, V.int 2147483587, V.int 2147483579, V.int 2147483563]) := upd_same
        have hp4 : (upd H2 a (.lst [V.int 2147483647, V.int 2147483629, V.int 2147483587, V.int 2147483579, V.int 2147483563])) p = some (.dK (penK c (turn + 1) rest)) := by rw [upd_ne npa]; exact hp2
        have kp4 : ∀ b o, H b = some o → b ≠ p → (upd H2 a (.lst [V.int 2147483647, V.int 2147483629, V.int 2147483587, V.int 2147483579, V.int 2147483563])) b = some o := fun b o e n => same_upd na b o (kp2 b o e n)
        generalize upd H2 a (.lst [V.int 2147483647, V.int 2147483629, V.int 2147483587, V.int 2147483579, V.int 2147483563]) = H4 at ha hp4 kp4
        obtain ⟨pr, epr, pr0, pr1⟩ := prime_at (i := turn % 5) (Int.emod_nonneg _ (by decide)) (Int.emod_lt_of_pos _ (by decide))
        obtain ⟨ps, eps, ps0, ps1⟩ := prime_at (i := (turn + 2) % 5) (Int.emod_nonneg _ (by decide)) (Int.emod_lt_of_pos _ (by decide))
        refine ⟨.ref a, rfl, .int turn, rfl, turn, 5, rfl, rfl, (by decide : (0 : Int) < 5), a, _, turn % 5, .int pr, rfl, rfl, SqL.of ha, epr, ?_⟩
        have c0 := Int.emod_nonneg cell (show pr ≠ 0 by omega)
        have c1 := Int.emod_lt_of_pos cell (show 0 < pr by omega)
        refine ⟨.int cell, rfl, .int pr, rfl, cell, pr, rfl, rfl, (by omega : 0 < pr), cell % pr, 48271, rfl, rfl, .inl ⟨by omega, by omega⟩, .int turn, rfl, 39373, turn, rfl, rfl, .inl ⟨by decide, by decide⟩, .int turn, rfl, 39373 * turn, turn, rfl, rfl, .inr ⟨by omega, by omega⟩, _, _, rfl, rfl, _, 13, rfl, rfl, .int pr, rfl, _, pr, rfl, rfl, (by omega : 0 < pr), ?_⟩
        dsimp only
        generalize hz : (cell % pr * 48271 + 39373 * turn * turn + 13) % pr = z
        have z0 : 0 ≤ z := by rw [← hz]; exact Int.emod_nonneg _ (by omega)
        have z1 : z < pr := by rw [← hz]; exact Int.emod_lt_of_pos _ (by omega)
        refine ⟨.int z, rfl, .int z, rfl, z, 69621, rfl, rfl, z, z + 69621, rfl, rfl, .inl ⟨by omega, by omega⟩, .ref a, rfl, .int turn, rfl, turn, 2, rfl, rfl, turn + 2, 5, rfl, rfl, (by decide : (0 : Int) < 5), a, _, (turn + 2) % 5, .int ps, rfl, rfl, SqL.of ha, eps, _, ps, rfl, rfl, (by omega : 0 < ps), ?_⟩
        dsimp only
        generalize hy : z * (z + 69621) % ps = y
        have y0 : 0 ≤ y := by rw [← hy]; exact Int.emod_nonneg _ (by omega)
        have y1 : y < ps := by rw [← hy]; exact Int.emod_lt_of_pos _ (by omega)
        refine ⟨.int y, rfl, .int y, rfl, y, y, rfl, rfl, .inl ⟨by omega, by omega⟩, _, 2147483549, rfl, rfl, (by decide : (0 : Int) < 2147483549), _, 64, rfl, rfl, ⟨by decide, by decide⟩, .int many, rfl, _, many, rfl, rfl, m0, ?_⟩
        exact done _ (turn + 1) rest H4 (Int.emod_nonneg _ (by omega)) (Int.emod_lt_of_pos _ m0) (by omega) (by omega) rest0 hp4 kp4
    ·
      -- the primes
      refine ⟨Nat.le_of_lt (by decide), fun a na => ?_⟩
      have npa : p ≠ a := ne_of_none hp2 na
      have nca : c ≠ a := ne_of_none hc2 na
      have ha : (upd H2 a (.lst [V.int 2147483647, V.int 2147483629, V.int 2147483587, V.int 2147483579, V.int 2147483563])) a = some (.lst [V.int 2147483647, V.int 2147483629, V.int 2147483587, V.int 2147483579, V.int 2147483563]) := upd_same
      have hp4 : (upd H2 a (.lst [V.int 2147483647, V.int 2147483629, V.int 2147483587, V.int 2147483579, V.int 2147483563])) p = some (.dK (penK c (turn + 1) rest)) := by rw [upd_ne npa]; exact hp2
      have kp4 : ∀ b o, H b = some o → b ≠ p → (upd H2 a (.lst [V.int 2147483647, V.int 2147483629, V.int 2147483587, V.int 2147483579, V.int 2147483563])) b = some o := fun b o e n => same_upd na b o (kp2 b o e n)
      generalize upd H2 a (.lst [V.int 2147483647, V.int 2147483629, V.int 2147483587, V.int 2147483579, V.int 2147483563]) = H4 at ha hp4 kp4
      obtain ⟨pr, epr, pr0, pr1⟩ := prime_at (i := turn % 5) (Int.emod_nonneg _ (by decide)) (Int.emod_lt_of_pos _ (by decide))
      obtain ⟨ps, eps, ps0, ps1⟩ := prime_at (i := (turn + 2) % 5) (Int.emod_nonneg _ (by decide)) (Int.emod_lt_of_pos _ (by decide))
      refine ⟨.ref a, rfl, .int turn, rfl, turn, 5, rfl, rfl, (by decide : (0 : Int) < 5), a, _, turn % 5, .int pr, rfl, rfl, SqL.of ha, epr, ?_⟩
      have c0 := Int.emod_nonneg cell (show pr ≠ 0 by omega)
      have c1 := Int.emod_lt_of_pos cell (show 0 < pr by omega)
      refine ⟨.int cell, rfl, .int pr, rfl, cell, pr, rfl, rfl, (by omega : 0 < pr), cell % pr, 48271, rfl, rfl, .inl ⟨by omega, by omega⟩, .int turn, rfl, 39373, turn, rfl, rfl, .inl ⟨by decide, by decide⟩, .int turn, rfl, 39373 * turn, turn, rfl, rfl, .inr ⟨by omega, by omega⟩, _, _, rfl, rfl, _, 13, rfl, rfl, .int pr, rfl, _, pr, rfl, rfl, (by omega : 0 < pr), ?_⟩
      dsimp only
      generalize hz : (cell % pr * 48271 + 39373 * turn * turn + 13) % pr = z
      have z0 : 0 ≤ z := by rw [← hz]; exact Int.emod_nonneg _ (by omega)
      have z1 : z < pr := by rw [← hz]; exact Int.emod_lt_of_pos _ (by omega)
      refine ⟨.int z, rfl, .int z, rfl, z, 69621, rfl, rfl, z, z + 69621, rfl, rfl, .inl ⟨by omega, by omega⟩, .ref a, rfl, .int turn, rfl, turn, 2, rfl, rfl, turn + 2, 5, rfl, rfl, (by decide : (0 : Int) < 5), a, _, (turn + 2) % 5, .int ps, rfl, rfl, SqL.of ha, eps, _, ps, rfl, rfl, (by omega : 0 < ps), ?_⟩
      dsimp only
      generalize hy : z * (z + 69621) % ps = y
      have y0 : 0 ≤ y := by rw [← hy]; exact Int.emod_nonneg _ (by omega)
      have y1 : y < ps := by rw [← hy]; exact Int.emod_lt_of_pos _ (by omega)
      refine ⟨.int y, rfl, .int y, rfl, y, y, rfl, rfl, .inl ⟨by omega, by omega⟩, _, 2147483549, rfl, rfl, (by decide : (0 : Int) < 2147483549), _, 64, rfl, rfl, ⟨by decide, by decide⟩, .int many, rfl, _, many, rfl, rfl, m0, ?_⟩
      exact done _ (turn + 1) rest H4 (Int.emod_nonneg _ (by omega)) (Int.emod_lt_of_pos _ m0) (by omega) (by omega) rest0 hp4 kp4
end
end Law

namespace Law
open PySem PySem.Spec PyProof.Rows L2 Tk
section
variable {P : Program} {w : World} {K : PySem.W.Frag} {mg : Str → Option Value} {base : Heap}
def wholeD (d : D) : Bool := isI "int" d && !isI "bool" d
theorem ok_is_whole {f : Addr} {fd : FuncData} (D_is_whole : Df K mg "is_whole" st_is_whole ["thing"] f fd) (T : Tb mg) (W : Wo) : FnG P w K mg base CX0 1 f fd ["thing"] (spOf W fun ds ω Q => ∃ d, ds = [d] ∧ isObD d = false ∧ Q (.bl (wholeD d)) ω) := by
  refine okD D_is_whole.F sc_is_whole (by rintro _ _ _ ⟨d, rfl, _⟩; rfl) ?_
  rintro cdv A outer s H E _ ω Q gd hr ⟨d, rfl, hd, q⟩
  refine ⟨_, (dss_one (ds_ret (de_and (de_isi (T := "int") (by decide +kernel) rfl T.isinstance (de_v 0) rfl T.int (by decide +kernel)) (de_one (de_not (de_isi (T := "bool") (by decide +kernel) rfl T.isinstance (de_v 0) rfl T.bool (by decide +kernel))))))), ?_⟩
  simp [-Bool.exists_bool, and_assoc, dRet, dRetN, dAndV, dOrV, dNotV, dIsi, dV, dC, dOp, dCh, dIf, dIs, dIsNot, dTst, dNot, dAnd, dOr, dSeq, dIfS, dNext, dSet, dCall, dCons, dNil, dF1, dTup, dLst, dNeg, dDrop, dPar, startD, wipeD, setD, isIT, inD_f, inD_t, leD, ltD, gtD, geD, addD, subD, hd]
  unfold wholeD at q
  cases hh : isI "int" d <;> simpa [hh] using q
def numD (d : D) (l h : Int) : Bool := match d with
  | .int i => decide (l ≤ i) && decide (i ≤ h)
  | _ => false
theorem f_is_number : Paired Flat [V.int (-999999999999999), V.int 999999999999999] [D.int (-999999999999999), D.int 999999999999999] := .cons (.int _) (.cons (.int _) .nil)
theorem ok_is_number {f f1 : Addr} {fd fd1 : FuncData} {k1 : Nat} (D_is_number : DfD K mg "is_number" st_is_number ["thing", "low", "high"] [V.int (-999999999999999), V.int 999999999999999] f fd) (T : Tb mg) (W : Wo)
    (D_is_whole : Df K mg "is_whole" st_is_whole ["thing"] f1 fd1) : FnG P w K mg base CX0 2 f fd ["thing", "low", "high"] (spOf W fun ds ω Q => ∃ d l h, ds = [d, .int l, .int h] ∧ isObD d = false ∧ Q (.bl (numD d l h)) ω) := by
  have G_is_whole := ok_is_whole (P := P) (w := w) (base := base) D_is_whole T W
  refine okDd D_is_number.F sc_is_number (by rintro _ _ _ ⟨d, l, h, rfl, _⟩; rfl) ?_
  rintro cdv A outer s H E _ ω Q gd hr ⟨d, l, h, rfl, hd, q⟩
  refine ⟨_, (dss_one (ds_ret (de_and (de_cl G_is_whole gd (hr.mono (by decide)) rfl D_is_whole.m D_is_whole.F.kp D_is_whole.b .nil .nil (dl_cons (de_v 0) dl_nil)) (de_one (de_ch o_le o_le (de_v 1) (de_v 0) (de_v 2)))))), ?_⟩
  cases d <;> first | cases hd | skip
  all_goals simp [-Bool.exists_bool, and_assoc, dRet, dRetN, dAndV, dOrV, dNotV, dIsi, dV, dC, dOp, dCh, dIf, dIs, dIsNot, dTst, dNot, dAnd, dOr, dSeq, dIfS, dNext, dSet, dCall, dCons, dNil, dF1, dTup, dLst, dNeg, dDrop, dPar, startD, wipeD, setD, isIT, inD_f, inD_t, leD, ltD, gtD, geD, addD, subD, wholeD]
  all_goals simp only [numD] at q
  all_goals first | exact q | skip
  rename_i i
  by_cases hh : l ≤ i
  · simpa [hh] using q
  · simpa [hh] using q
def wordD (d : D) (most : Int) : Bool := match d with
  | .str x => decide ((1 : Int) ≤ x.length) && decide ((x.length : Int) ≤ most) && signsAll abc x
  | _ => false
theorem ok_is_word {f : Addr} {fd : FuncData} (D_is_word : Df K mg "is_word" st_is_word ["thing", "most"] f fd) (T : Tb mg) (W : Wo) : FnG P w K mg base CX0 1 f fd ["thing", "most"] (spOf W fun ds ω Q => ∃ d m, ds = [d, .int m] ∧ d.wf = true ∧ Q (.bl (wordD d m)) ω) := by
  refine okD D_is_word.F sc_is_word (by rintro _ _ _ ⟨d, m, rfl, _⟩; rfl) ?_
  rintro cdv A outer s H E _ ω Q gd hr ⟨d, m, rfl, hd, q⟩
  refine ⟨_, (dss_one (ds_ret (de_and (de_isi (T := "str") (by decide +kernel) rfl T.isinstance (de_v 0) rfl T.str (by decide +kernel)) (de_and (de_ch o_le o_le de_int (de_f1 f_len rfl T.len (by decide +kernel) (de_v 0)) (de_v 1)) (de_one (de_f1 (f_all rfl) rfl T.all (by decide +kernel) (de_lc (own := [("sign", 2)]) rfl sc_is_word.nd (di_str (de_v 0)) (blkOk_by (own := [("sign", 2)]) (N := ["thing", "most", "sign"]) (sc := defScope st_is_word) (by decide +kernel)) (gf_name 2) (fun _ _ _ _ _ => (pg_name (i := 2) sc_is_word.nd rfl (.inl rfl))) ts_nil (fun _ _ _ _ _ => (de_cmp o_in (de_v 2) (de_gS rfl T.c_LETTERS) (by rfl)))))))))), ?_⟩
  cases d <;> first | cases hd | skip
  all_goals simp [-Bool.exists_bool, and_assoc, dRet, dRetN, dAndV, dOrV, dNotV, dIsi, dV, dC, dOp, dCh, dIf, dIs, dIsNot, dTst, dNot, dAnd, dOr, dSeq, dIfS, dNext, dSet, dCall, dCons, dNil, dF1, dTup, dLst, dNeg, dDrop, dPar, startD, wipeD, setD, isIT, inD_f, inD_t, leD, ltD, gtD, geD, addD, subD]
  all_goals simp only [wordD] at q
  all_goals first | exact q | skip
  rename_i x
  obtain ⟨h1, h2⟩ := wf_str hd
  simp [-Bool.exists_bool, and_assoc, dRet, dRetN, dAndV, dOrV, dNotV, dIsi, dV, dC, dOp, dCh, dIf, dIs, dIsNot, dTst, dNot, dAnd, dOr, dSeq, dIfS, dNext, dSet, dCall, dCons, dNil, dF1, dTup, dLst, dNeg, dDrop, dPar, startD, wipeD, setD, isIT, inD_f, inD_t, leD, ltD, gtD, geD, addD, subD, lenD, line1000 h1]
  by_cases c1 : (1 : Int) ≤ x.length
  · by_cases c2 : (x.length : Int) ≤ m
    · simp only [c1, c2, decide_true, Bool.true_and, if_true] at q ⊢
      refine ⟨_, rfl, x, rfl, lcW_map (fun d => match d with | .str y => D.bl (signsAll abc y) | _ => .non) _ _ (fun y hy => ?_) (by rw [signs_len]; exact line1000 (by simpa using h1)) ?_⟩
      · obtain ⟨c, rfl, hc⟩ := signs_mem hy
        refine ⟨_, rfl, fun ω Q q => ?_⟩
        simp [-Bool.exists_bool, and_assoc, dRet, dRetN, dAndV, dOrV, dNotV, dIsi, dV, dC, dOp, dCh, dIf, dIs, dIsNot, dTst, dNot, dAnd, dOr, dSeq, dIfS, dNext, dSet, dCall, dCons, dNil, dF1, dTup, dLst, dNeg, dDrop, dPar, startD, wipeD, setD, isIT, inD_f, inD_t, leD, ltD, gtD, geD, addD, subD]
        simpa [signsAll, abc] using q
      · refine ⟨.bl (signsAll abc x), ?_, q⟩
        have e : (Tk.signs x).map (fun d => match d with | .str y => D.bl (signsAll abc y) | _ => .non) = x.cps.toList.map fun c => D.bl (decide (c ∈ abc.cps.toList)) := by
          unfold Tk.signs
          rw [List.map_map]
          refine List.map_congr_left fun c _ => ?_
          simp [signsAll]
        rw [List.nil_append, e, allD_map]
        rfl
    · simp [c1, c2] at q ⊢
      exact q
  · simp [c1] at q ⊢
    exact q
theorem ok_is_name {f f1 : Addr} {fd fd1 : FuncData} (D_is_name : Df K mg "is_name" st_is_name ["thing"] f fd) (T : Tb mg) (W : Wo) (D_is_word : Df K mg "is_word" st_is_word ["thing", "most"] f1 fd1) :
    FnG P w K mg base CX0 2 f fd ["thing"] (spOf W fun ds ω Q => ∃ d, ds = [d] ∧ d.wf = true ∧ Q (.bl (wordD d 8)) ω) := by
  have G_is_word := ok_is_word (P := P) (w := w) (base := base) D_is_word T W
  refine okD D_is_name.F sc_is_name (by rintro _ _ _ ⟨d, rfl, _⟩; rfl) ?_
  rintro cdv A outer s H E _ ω Q gd hr ⟨d, rfl, hd, q⟩
  refine ⟨_, (dss_one (ds_ret (de_cl G_is_word gd (hr.mono (by decide)) rfl D_is_word.m D_is_word.F.kp D_is_word.b .nil .nil (dl_cons (de_v 0) (dl_cons de_int dl_nil))))), ?_⟩
  simp [-Bool.exists_bool, and_assoc, dRet, dRetN, dAndV, dOrV, dNotV, dIsi, dV, dC, dOp, dCh, dIf, dIs, dIsNot, dTst, dNot, dAnd, dOr, dSeq, dIfS, dNext, dSet, dCall, dCons, dNil, dF1, dTup, dLst, dNeg, dDrop, dPar, startD, wipeD, setD, isIT, inD_f, inD_t, leD, ltD, gtD, geD, addD, subD, hd]
  exact q
def cellD (d : D) : Bool := isN d || numD d (-999999999999999) 999999999999999 || wordD d 12
theorem ok_is_cell {f f1 f2 f3 : Addr} {fd fd1 fd2 fd3 : FuncData} (D_is_cell : Df K mg "is_cell" st_is_cell ["thing"] f fd) (T : Tb mg) (W : Wo) (D_is_word : Df K mg "is_word" st_is_word ["thing", "most"] f1 fd1) (D_is_whole : Df K mg "is_whole" st_is_whole ["thing"] f2 fd2)
    (D_is_number : DfD K mg "is_number" st_is_number ["thing", "low", "high"] [V.int (-999999999999999), V.int 999999999999999] f3 fd3) :
    FnG P w K mg base CX0 3 f fd ["thing"] (spOf W fun ds ω Q => ∃ d, ds = [d] ∧ d.wf = true ∧ Q (.bl (cellD d)) ω) := by
  have G_is_word := ok_is_word (P := P) (w := w) (base := base) D_is_word T W
  have G_is_number := ok_is_number (P := P) (w := w) (base := base) (k1 := 0) D_is_number T W D_is_whole
  refine okD D_is_cell.F sc_is_cell (by rintro _ _ _ ⟨d, rfl, _⟩; rfl) ?_
  rintro cdv A outer s H E _ ω Q gd hr ⟨d, rfl, hd, q⟩
  refine ⟨_, (dss_one (ds_ret (de_or (de_is (de_v 0)) (de_or (de_clD G_is_number gd (hr.mono (by decide)) rfl D_is_number.m D_is_number.F.kp D_is_number.bd f_is_number (dl_cons (de_v 0) dl_nil)) (de_one (de_cl G_is_word gd (hr.mono (by decide)) rfl D_is_word.m D_is_word.F.kp D_is_word.b .nil .nil (dl_cons (de_v 0) (dl_cons (de_gI rfl T.c_MOST_LETTERS) dl_nil)))))))), ?_⟩
  simp [-Bool.exists_bool, and_assoc, dRet, dRetN, dAndV, dOrV, dNotV, dIsi, dV, dC, dOp, dCh, dIf, dIs, dIsNot, dTst, dNot, dAnd, dOr, dSeq, dIfS, dNext, dSet, dCall, dCons, dNil, dF1, dTup, dLst, dNeg, dDrop, dPar, startD, wipeD, setD, isIT, inD_f, inD_t, leD, ltD, gtD, geD, addD, subD, hd, wf_ob hd]
  unfold cellD at q
  cases h1 : isN d
  · cases h2 : numD d (-999999999999999) 999999999999999
    · simp [h1, h2] at q ⊢; exact q
    · simp [h1, h2] at q ⊢; exact q
  · simp [h1] at q ⊢; exact q

end
end Law

namespace Law
open PySem PySem.Spec PyProof.Rows L2 Tk
section
variable {P : Program} {w : World} {K : PySem.W.Frag} {mg : Str → Option Value} {base : Heap}
/-! ## things, by both -/
mutual
def deepD : D → Int → Bool
  | .tup xs, n => decide (0 < n) && deepL xs (n - 1)
  | .non, _ => cellD .non
  | .bl b, _ => cellD (.bl b)
  | .int i, _ => cellD (.int i)
  | .str x, _ => cellD (.str x)
  | .lst xs, _ => cellD (.lst xs)
  | .dic xs, _ => cellD (.dic xs)
  | .ob a, _ => cellD (.ob a)
def deepL : List D → Int → Bool
  | [], _ => true
  | x :: xs, n => deepD x n && deepL xs n
end
theorem deepL_all (n : Int) : ∀ xs : List D, deepL xs n = xs.all fun x => deepD x n
  | [] => rfl
  | x :: xs => by rw [List.all_cons, ← deepL_all n xs]; rfl
theorem deepD_cell {d : D} {n : Int} (h : isI "tuple" d = false) : deepD d n = cellD d := by
  cases d <;> first | rfl | (simp [isIT] at h)
theorem isTup {d : D} (h : isI "tuple" d = true) : ∃ xs, d = .tup xs := by
  cases d <;> first | exact ⟨_, rfl⟩ | (simp [isIT] at h)
/-- what is asked of a call that goes deeper -/
def deepS (W : Wo) (m : Int) : Spd W := fun ds ω Q => ∃ d n, ds = [d, .int n] ∧ d.wf = true ∧ n < m ∧ Q (.bl (deepD d n)) ω
theorem deep_step {f f1 : Addr} {fd fd1 : FuncData} {j k1 : Nat} (D_is_deep_thing : Df K mg "is_deep_thing" st_is_deep_thing ["thing", "deep"] f fd) (T : Tb mg) (W : Wo) (D_is_cell : Df K mg "is_cell" st_is_cell ["thing"] f1 fd1)
    (G_is_cell : FnG P w K mg base CX0 3 f1 fd1 ["thing"] (spOf W fun ds ω Q => ∃ d, ds = [d] ∧ d.wf = true ∧ Q (.bl (cellD d)) ω)) (m : Int) (S : Spd W) (hS : ∀ d n ω Q, d.wf = true → 0 ≤ n → n + 1 < m → Q (.bl (deepD d n)) ω → S [d, .int n] ω Q)
    (G_is_deep_thing : FnG P w K mg base CX0 j f fd ["thing", "deep"] (spOf W S)) (hj : 3 ≤ j) : FnG P w K mg base CX0 (j + 1) f fd ["thing", "deep"] (spOf W (deepS W m)) := by
  refine okD D_is_deep_thing.F sc_is_deep_thing (by rintro _ _ _ ⟨d, n, rfl, _⟩; rfl) ?_
  rintro cdv A outer s H E _ ω Q gd hr ⟨d, n, rfl, hd, hn, q⟩
  refine ⟨_, (dss_cons (ds_if (dp_not (dp_val (de_isi (T := "tuple") (by decide +kernel) rfl T.isinstance (de_v 0) rfl T.tuple (by decide +kernel)))) (dss_one (ds_ret (de_cl G_is_cell gd (hr.mono (by omega)) rfl D_is_cell.m D_is_cell.F.kp D_is_cell.b .nil .nil (dl_cons (de_v 0) dl_nil)))) dss_nil)
    (dss_one (ds_ret (de_and (de_cmp o_gt (de_v 1) de_int (nomark _)) (de_one (de_f1 (f_all rfl) rfl T.all (by decide +kernel) (de_lc (own := [("part", 2)]) rfl sc_is_deep_thing.nd (di_tup (de_v 0)) (blkOk_by (own := [("part", 2)]) (N := ["thing", "deep", "part"]) (sc := defScope st_is_deep_thing) (by decide +kernel)) (gf_name 2) (fun _ _ _ _ _ => (pg_name (i := 2) sc_is_deep_thing.nd rfl (.inl rfl))) ts_nil (fun _ _ _ _ _ => (de_cl G_is_deep_thing gd (hr.mono (by omega)) rfl D_is_deep_thing.m D_is_deep_thing.F.kp D_is_deep_thing.b .nil .nil (dl_cons (de_v 2) (dl_cons (de_op o_sub (de_v 1) de_int) dl_nil))))))))))), ?_⟩
  simp [-Bool.exists_bool, and_assoc, dRet, dRetN, dAndV, dOrV, dNotV, dIsi, dV, dC, dOp, dCh, dIf, dIs, dIsNot, dTst, dNot, dAnd, dOr, dSeq, dIfS, dNext, dSet, dCall, dCons, dNil, dF1, dTup, dLst, dNeg, dDrop, dPar, startD, wipeD, setD, isIT, inD_f, inD_t, leD, ltD, gtD, geD, addD, subD, hd, wf_ob hd]
  cases ht : isI "tuple" d with
  | false => rw [deepD_cell ht] at q; simpa using q
  | true =>
    obtain ⟨xs, rfl⟩ := isTup ht
    obtain ⟨h1, h2⟩ := wf_tup hd
    have e : deepD (.tup xs) n = (decide (0 < n) && deepL xs (n - 1)) := rfl
    rw [e] at q
    by_cases c : 0 < n
    · simp only [c, decide_true, Bool.true_and] at q
      simp [c]
      refine ⟨_, rfl, xs, rfl, lcW_map (fun x => D.bl (deepD x (n - 1))) _ _ (fun x hx => ?_) (line1000 (by simpa using h1)) ⟨.bl (deepL xs (n - 1)), ?_, q⟩⟩
      · refine ⟨_, rfl, fun ω Q q => ?_⟩
        simp [-Bool.exists_bool, and_assoc, dRet, dRetN, dAndV, dOrV, dNotV, dIsi, dV, dC, dOp, dCh, dIf, dIs, dIsNot, dTst, dNot, dAnd, dOr, dSeq, dIfS, dNext, dSet, dCall, dCons, dNil, dF1, dTup, dLst, dNeg, dDrop, dPar, startD, wipeD, setD, isIT, inD_f, inD_t, leD, ltD, gtD, geD, addD, subD]
        exact hS x (n - 1) ω Q (wfL_mem h2 x hx) (by omega) (by omega) q
      · rw [List.nil_append, allD_map (fun x => deepD x (n - 1)), deepL_all]
    · simpa [c] using q
theorem ok_deep {f f1 : Addr} {fd fd1 : FuncData} (D_is_deep_thing : Df K mg "is_deep_thing" st_is_deep_thing ["thing", "deep"] f fd) (T : Tb mg) (W : Wo) (D_is_cell : Df K mg "is_cell" st_is_cell ["thing"] f1 fd1)
    (G_is_cell : FnG P w K mg base CX0 3 f1 fd1 ["thing"] (spOf W fun ds ω Q => ∃ d, ds = [d] ∧ d.wf = true ∧ Q (.bl (cellD d)) ω)) : ∀ m : Nat, FnG P w K mg base CX0 (m + 4) f fd ["thing", "deep"] (spOf W (deepS W (m + 1)))
  | 0 => deep_step D_is_deep_thing T W D_is_cell G_is_cell 1 (k1 := 0) (fun _ _ _ => False) (fun d n ω Q _ h1 h2 _ => by omega) (j := 3) FnG.no (Nat.le_refl _)
  | m + 1 => by
    have ih := ok_deep D_is_deep_thing T W D_is_cell G_is_cell m
    have := deep_step D_is_deep_thing T W D_is_cell G_is_cell (((m + 1 : Nat) : Int) + 1) (k1 := 0) (deepS W (m + 1)) (fun d n ω Q h h1 h2 q => ⟨d, n, rfl, h, by omega, q⟩) ih (by omega)
    exact this
theorem ok_is_thing {f f1 : Addr} {fd fd1 : FuncData} (D_is_thing : Df K mg "is_thing" st_is_thing ["thing"] f fd) (T : Tb mg) (W : Wo) (D_is_deep_thing : Df K mg "is_deep_thing" st_is_deep_thing ["thing", "deep"] f1 fd1)
    (G_is_deep_thing : FnG P w K mg base CX0 16 f1 fd1 ["thing", "deep"] (spOf W (deepS W (12 + 1)))) : FnG P w K mg base CX0 17 f fd ["thing"] (spOf W fun ds ω Q => ∃ d, ds = [d] ∧ d.wf = true ∧ Q (.bl (deepD d 12)) ω) := by
  refine okD D_is_thing.F sc_is_thing (by rintro _ _ _ ⟨d, rfl, _⟩; rfl) ?_
  rintro cdv A outer s H E _ ω Q gd hr ⟨d, rfl, hd, q⟩
  refine ⟨_, (dss_one (ds_ret (de_cl G_is_deep_thing gd (hr.mono (by decide)) rfl D_is_deep_thing.m D_is_deep_thing.F.kp D_is_deep_thing.b .nil .nil (dl_cons (de_v 0) (dl_cons (de_gI rfl T.c_MOST_DEPTH) dl_nil))))), ?_⟩
  simp [-Bool.exists_bool, and_assoc, dRet, dRetN, dAndV, dOrV, dNotV, dIsi, dV, dC, dOp, dCh, dIf, dIs, dIsNot, dTst, dNot, dAnd, dOr, dSeq, dIfS, dNext, dSet, dCall, dCons, dNil, dF1, dTup, dLst, dNeg, dDrop, dPar, startD, wipeD, setD, isIT, inD_f, inD_t, leD, ltD, gtD, geD, addD, subD, deepS, hd]
  exact q
/-! ## the law's own -/
theorem ok_l_whole {f : Addr} {fd : FuncData} (D_l_whole : Df K mg "_law_whole" st_l_whole ["_law_thing_here", "_law_low", "_law_high"] f fd) (T : Tb mg) (W : Wo) : FnG P w K mg base CX0 1 f fd ["_law_thing_here", "_law_low", "_law_high"] (spOf W fun ds ω Q => ∃ d l h, ds = [d, .int l, .int h] ∧ isObD d = false ∧ Q (.bl (numD d l h)) ω) := by
  refine okD D_l_whole.F sc_l_whole (by rintro _ _ _ ⟨d, l, h, rfl, _⟩; rfl) ?_
  rintro cdv A outer s H E _ ω Q gd hr ⟨d, l, h, rfl, hd, q⟩
  refine ⟨_, (dss_one (ds_ret (de_and (de_isi (T := "int") (by decide +kernel) rfl T.isinstance (de_v 0) rfl T.int (by decide +kernel)) (de_and (de_not (de_isi (T := "bool") (by decide +kernel) rfl T.isinstance (de_v 0) rfl T.bool (by decide +kernel))) (de_one (de_ch o_le o_le (de_v 1) (de_v 0) (de_v 2))))))), ?_⟩
  cases d <;> first | cases hd | skip
  all_goals simp [-Bool.exists_bool, and_assoc, dRet, dRetN, dAndV, dOrV, dNotV, dIsi, dV, dC, dOp, dCh, dIf, dIs, dIsNot, dTst, dNot, dAnd, dOr, dSeq, dIfS, dNext, dSet, dCall, dCons, dNil, dF1, dTup, dLst, dNeg, dDrop, dPar, startD, wipeD, setD, isIT, inD_f, inD_t, leD, ltD, gtD, geD, addD, subD]
  all_goals simp only [numD] at q
  all_goals first | exact q | skip
  rename_i i
  by_cases hh : l ≤ i
  · simpa [hh] using q
  · simpa [hh] using q
theorem ok_l_letters {f : Addr} {fd : FuncData} (D_l_letters : Df K mg "_law_letters" st_l_letters ["_law_thing_here", "_law_most"] f fd) (T : Tb mg) (W : Wo) : FnG P w K mg base CX0 1 f fd ["_law_thing_here", "_law_most"] (spOf W fun ds ω Q => ∃ d m, ds = [d, .int m] ∧ d.wf = true ∧ Q (.bl (wordD d m)) ω) := by
  refine okD D_l_letters.F sc_l_letters (by rintro _ _ _ ⟨d, m, rfl, _⟩; rfl) ?_
  rintro cdv A outer s H E _ ω Q gd hr ⟨d, m, rfl, hd, q⟩
  have hu := hr.units
  refine ⟨_, (dss_cons (ds_if (DW.dp (dw_or (dp_not (dp_val (de_isi (T := "str") (by decide +kernel) rfl T.isinstance (de_v 0) rfl T.str (by decide +kernel)))) (dw_or1 (dp_not (dp_ch o_le o_le de_int (de_f1 f_len rfl T.len (by decide +kernel) (de_v 0)) (de_v 1)))))) (dss_one (ds_ret de_bl)) dss_nil)
    (dss_one (ds_ret (de_cmp (o_eq2 hu) (de_lc (own := [("_law_sign", 2)]) rfl sc_l_letters.nd (di_str (de_v 0)) (blkOk_by (own := [("_law_sign", 2)]) (N := ["_law_thing_here", "_law_most", "_law_sign"]) (sc := defScope st_l_letters) (by decide +kernel)) (gf_name 2) (fun _ _ _ _ _ => (pg_name (i := 2) sc_l_letters.nd rfl (.inl rfl))) (ts_one fun _ _ _ _ _ => (dp_cmp o_notin (de_v 2) de_str (by rfl))) (fun _ _ _ _ _ => (de_v 2))) (de_lst dl_nil) (nomark _))))), ?_⟩
  cases d <;> first | cases hd | skip
  all_goals simp [-Bool.exists_bool, and_assoc, dRet, dRetN, dAndV, dOrV, dNotV, dIsi, dV, dC, dOp, dCh, dIf, dIs, dIsNot, dTst, dNot, dAnd, dOr, dSeq, dIfS, dNext, dSet, dCall, dCons, dNil, dF1, dTup, dLst, dNeg, dDrop, dPar, startD, wipeD, setD, isIT, inD_f, inD_t, leD, ltD, gtD, geD, addD, subD]
  all_goals simp only [wordD] at q
  all_goals first | exact q | skip
  rename_i x
  obtain ⟨h1, h2⟩ := wf_str hd
  simp [-Bool.exists_bool, and_assoc, dRet, dRetN, dAndV, dOrV, dNotV, dIsi, dV, dC, dOp, dCh, dIf, dIs, dIsNot, dTst, dNot, dAnd, dOr, dSeq, dIfS, dNext, dSet, dCall, dCons, dNil, dF1, dTup, dLst, dNeg, dDrop, dPar, startD, wipeD, setD, isIT, inD_f, inD_t, leD, ltD, gtD, geD, addD, subD, lenD, line1000 h1]
  by_cases c1 : (1 : Int) ≤ x.length
  · by_cases c2 : (x.length : Int) ≤ m
    · simp only [c1, c2, decide_true, Bool.true_and, Bool.not_true, Bool.false_eq_true, if_false, if_true] at q ⊢
      refine ⟨_, rfl, x, rfl, lcW_filter (fun d => match d with | .str y => !signsAll abc y | _ => false) id _ _ (fun y hy => ?_) (by rw [signs_len]; exact line1000 (by simpa using h1)) ?_⟩
      · obtain ⟨c, rfl, hc⟩ := signs_mem hy
        refine ⟨_, rfl, fun ω Q q => ?_, fun _ ω Q q => ?_⟩
        · simp [-Bool.exists_bool, and_assoc, dRet, dRetN, dAndV, dOrV, dNotV, dIsi, dV, dC, dOp, dCh, dIf, dIs, dIsNot, dTst, dNot, dAnd, dOr, dSeq, dIfS, dNext, dSet, dCall, dCons, dNil, dF1, dTup, dLst, dNeg, dDrop, dPar, startD, wipeD, setD, isIT, inD_f, inD_t, leD, ltD, gtD, geD, addD, subD]
          by_cases hca : c ∈ abc.cps
          · exact ⟨false, by simpa [abc] using hca, by simpa [signsAll, hca] using q⟩
          · exact ⟨true, by simpa [abc] using hca, by simpa [signsAll, hca] using q⟩
        · simp [-Bool.exists_bool, and_assoc, dRet, dRetN, dAndV, dOrV, dNotV, dIsi, dV, dC, dOp, dCh, dIf, dIs, dIsNot, dTst, dNot, dAnd, dOr, dSeq, dIfS, dNext, dSet, dCall, dCons, dNil, dF1, dTup, dLst, dNeg, dDrop, dPar, startD, wipeD, setD, isIT, inD_f, inD_t, leD, ltD, gtD, geD, addD, subD]
          simpa using q
      · simp [-Bool.exists_bool, and_assoc, dRet, dRetN, dAndV, dOrV, dNotV, dIsi, dV, dC, dOp, dCh, dIf, dIs, dIsNot, dTst, dNot, dAnd, dOr, dSeq, dIfS, dNext, dSet, dCall, dCons, dNil, dF1, dTup, dLst, dNeg, dDrop, dPar, startD, wipeD, setD, isIT, inD_f, inD_t, leD, ltD, gtD, geD, addD, subD, eqD2_nil]
        have e : (((Tk.signs x).filter fun d => match d with | .str y => !signsAll abc y | _ => false).map id).isEmpty = signsAll abc x := by
          unfold Tk.signs signsAll
          rw [List.map_id]
          induction x.cps.toList with
          | nil => rfl
          | cons c cs ih =>
            rw [List.map_cons, List.all_cons, ← ih, List.filter_cons]
            by_cases hc : c ∈ abc.cps
            · simp [hc]
            · simp [hc]
        simpa [← e] using q
    · simp [c1, c2] at q ⊢
      exact q
  · simp [c1] at q ⊢
    exact q
theorem ok_l_is_cell {f f1 f2 : Addr} {fd fd1 fd2 : FuncData} (D_l_is_cell : Df K mg "_law_is_cell" st_l_is_cell ["_law_thing_here"] f fd) (T : Tb mg) (W : Wo) (D_l_letters : Df K mg "_law_letters" st_l_letters ["_law_thing_here", "_law_most"] f1 fd1) (D_l_whole : Df K mg "_law_whole" st_l_whole ["_law_thing_here", "_law_low", "_law_high"] f2 fd2) :
    FnG P w K mg base CX0 2 f fd ["_law_thing_here"] (spOf W fun ds ω Q => ∃ d, ds = [d] ∧ d.wf = true ∧ Q (.bl (cellD d)) ω) := by
  have G_l_letters := ok_l_letters (P := P) (w := w) (base := base) D_l_letters T W
  have G_l_whole := ok_l_whole (P := P) (w := w) (base := base) D_l_whole T W
  refine okD D_l_is_cell.F sc_l_is_cell (by rintro _ _ _ ⟨d, rfl, _⟩; rfl) ?_
  rintro cdv A outer s H E _ ω Q gd hr ⟨d, rfl, hd, q⟩
  refine ⟨_, (dss_one (ds_ret (de_or (de_is (de_v 0)) (de_or (de_cl G_l_whole gd (hr.mono (by decide)) rfl D_l_whole.m D_l_whole.F.kp D_l_whole.b .nil .nil (dl_cons (de_v 0) (dl_cons (de_op o_sub de_int (de_op o_pow de_int de_int)) (dl_cons (de_op o_sub (de_op o_pow de_int de_int) de_int) dl_nil)))) (de_one (de_cl G_l_letters gd (hr.mono (by decide)) rfl D_l_letters.m D_l_letters.F.kp D_l_letters.b .nil .nil (dl_cons (de_v 0) (dl_cons de_int dl_nil)))))))), ?_⟩
  simp [-Bool.exists_bool, and_assoc, dRet, dRetN, dAndV, dOrV, dNotV, dIsi, dV, dC, dOp, dCh, dIf, dIs, dIsNot, dTst, dNot, dAnd, dOr, dSeq, dIfS, dNext, dSet, dCall, dCons, dNil, dF1, dTup, dLst, dNeg, dDrop, dPar, startD, wipeD, setD, isIT, inD_f, inD_t, leD, ltD, gtD, geD, addD, subD, hd, wf_ob hd, powD]
  unfold cellD at q
  cases h1 : isN d
  · cases h2 : numD d (-999999999999999) 999999999999999
    · simp [h1, h2] at q ⊢; exact q
    · simp [h1, h2] at q ⊢; exact q
  · simp [h1] at q ⊢; exact q
theorem ldeep_step {f f1 : Addr} {fd fd1 : FuncData} {j : Nat} (D_l_is_thing : Df K mg "_law_is_thing" st_l_is_thing ["_law_thing_here", "_law_deep"] f fd) (T : Tb mg) (W : Wo) (D_l_is_cell : Df K mg "_law_is_cell" st_l_is_cell ["_law_thing_here"] f1 fd1)
    (G_l_is_cell : FnG P w K mg base CX0 2 f1 fd1 ["_law_thing_here"] (spOf W fun ds ω Q => ∃ d, ds = [d] ∧ d.wf = true ∧ Q (.bl (cellD d)) ω)) (m : Int) (S : Spd W) (hS : ∀ d n ω Q, d.wf = true → 0 ≤ n → n + 1 < m → Q (.bl (deepD d n)) ω → S [d, .int n] ω Q)
    (G_l_is_thing : FnG P w K mg base CX0 j f fd ["_law_thing_here", "_law_deep"] (spOf W S)) (hj : 2 ≤ j) : FnG P w K mg base CX0 (j + 1) f fd ["_law_thing_here", "_law_deep"] (spOf W (deepS W m)) := by
  refine okD D_l_is_thing.F sc_l_is_thing (by rintro _ _ _ ⟨d, n, rfl, _⟩; rfl) ?_
  rintro cdv A outer s H E _ ω Q gd hr ⟨d, n, rfl, hd, hn, q⟩
  have hu := hr.units
  refine ⟨_, (dss_cons (ds_if (dp_not (dp_val (de_isi (T := "tuple") (by decide +kernel) rfl T.isinstance (de_v 0) rfl T.tuple (by decide +kernel)))) (dss_one (ds_ret (de_cl G_l_is_cell gd (hr.mono (by omega)) rfl D_l_is_cell.m D_l_is_cell.F.kp D_l_is_cell.b .nil .nil (dl_cons (de_v 0) dl_nil)))) dss_nil)
    (dss_one (ds_ret (de_and (de_cmp o_gt (de_v 1) de_int (nomark _)) (de_one (de_cmp (o_eq2 hu) (de_lc (own := [("_law_part", 2)]) rfl sc_l_is_thing.nd (di_tup (de_v 0)) (blkOk_by (own := [("_law_part", 2)]) (N := ["_law_thing_here", "_law_deep", "_law_part"]) (sc := defScope st_l_is_thing) (by decide +kernel)) (gf_name 2) (fun _ _ _ _ _ => (pg_name (i := 2) sc_l_is_thing.nd rfl (.inl rfl))) (ts_one fun _ _ _ _ _ => (dp_not (dp_val (de_cl G_l_is_thing gd (hr.mono (by omega)) rfl D_l_is_thing.m D_l_is_thing.F.kp D_l_is_thing.b .nil .nil (dl_cons (de_v 2) (dl_cons (de_op o_sub (de_v 1) de_int) dl_nil)))))) (fun _ _ _ _ _ => (de_v 2))) (de_lst dl_nil) (nomark _))))))), ?_⟩
  simp [-Bool.exists_bool, and_assoc, dRet, dRetN, dAndV, dOrV, dNotV, dIsi, dV, dC, dOp, dCh, dIf, dIs, dIsNot, dTst, dNot, dAnd, dOr, dSeq, dIfS, dNext, dSet, dCall, dCons, dNil, dF1, dTup, dLst, dNeg, dDrop, dPar, startD, wipeD, setD, isIT, inD_f, inD_t, leD, ltD, gtD, geD, addD, subD, hd, wf_ob hd]
  cases ht : isI "tuple" d with
  | false => rw [deepD_cell ht] at q; simpa using q
  | true =>
    obtain ⟨xs, rfl⟩ := isTup ht
    obtain ⟨h1, h2⟩ := wf_tup hd
    have e : deepD (.tup xs) n = (decide (0 < n) && deepL xs (n - 1)) := rfl
    rw [e] at q
    by_cases c : 0 < n
    · simp only [c, decide_true, Bool.true_and] at q
      simp [c]
      refine ⟨_, rfl, xs, rfl, lcW_filter (fun x => !deepD x (n - 1)) id _ _ (fun x hx => ?_) (line1000 (by simpa using h1)) ?_⟩
      · refine ⟨_, rfl, fun ω Q q => ?_, fun _ ω Q q => ?_⟩
        · simp [-Bool.exists_bool, and_assoc, dRet, dRetN, dAndV, dOrV, dNotV, dIsi, dV, dC, dOp, dCh, dIf, dIs, dIsNot, dTst, dNot, dAnd, dOr, dSeq, dIfS, dNext, dSet, dCall, dCons, dNil, dF1, dTup, dLst, dNeg, dDrop, dPar, startD, wipeD, setD, isIT, inD_f, inD_t, leD, ltD, gtD, geD, addD, subD]
          exact hS x (n - 1) ω _ (wfL_mem h2 x hx) (by omega) (by omega) ⟨_, rfl, q⟩
        · simp [-Bool.exists_bool, and_assoc, dRet, dRetN, dAndV, dOrV, dNotV, dIsi, dV, dC, dOp, dCh, dIf, dIs, dIsNot, dTst, dNot, dAnd, dOr, dSeq, dIfS, dNext, dSet, dCall, dCons, dNil, dF1, dTup, dLst, dNeg, dDrop, dPar, startD, wipeD, setD, isIT, inD_f, inD_t, leD, ltD, gtD, geD, addD, subD]
          simpa using q
      · simp [-Bool.exists_bool, and_assoc, dRet, dRetN, dAndV, dOrV, dNotV, dIsi, dV, dC, dOp, dCh, dIf, dIs, dIsNot, dTst, dNot, dAnd, dOr, dSeq, dIfS, dNext, dSet, dCall, dCons, dNil, dF1, dTup, dLst, dNeg, dDrop, dPar, startD, wipeD, setD, isIT, inD_f, inD_t, leD, ltD, gtD, geD, addD, subD, eqD2_nil]
        have e : (xs.filter fun x => !deepD x (n - 1)).isEmpty = deepL xs (n - 1) := by
          rw [deepL_all]
          clear q h1 h2 ht hd e
          induction xs with
          | nil => rfl
          | cons x xs ih =>
            rw [List.all_cons, ← ih, List.filter_cons]
            cases deepD x (n - 1) <;> simp
        simpa [← e] using q
    · simpa [c] using q
theorem ok_ldeep {f f1 : Addr} {fd fd1 : FuncData} (D_l_is_thing : Df K mg "_law_is_thing" st_l_is_thing ["_law_thing_here", "_law_deep"] f fd) (T : Tb mg) (W : Wo) (D_l_is_cell : Df K mg "_law_is_cell" st_l_is_cell ["_law_thing_here"] f1 fd1)
    (G_l_is_cell : FnG P w K mg base CX0 2 f1 fd1 ["_law_thing_here"] (spOf W fun ds ω Q => ∃ d, ds = [d] ∧ d.wf = true ∧ Q (.bl (cellD d)) ω)) : ∀ m : Nat, FnG P w K mg base CX0 (m + 4) f fd ["_law_thing_here", "_law_deep"] (spOf W (deepS W (m + 1)))
  | 0 => ldeep_step D_l_is_thing T W D_l_is_cell G_l_is_cell 1 (fun _ _ _ => False) (fun d n ω Q _ h1 h2 _ => by omega) (j := 3) FnG.no (by decide)
  | m + 1 => by
    have ih := ok_ldeep D_l_is_thing T W D_l_is_cell G_l_is_cell m
    have := ldeep_step D_l_is_thing T W D_l_is_cell G_l_is_cell (((m + 1 : Nat) : Int) + 1) (deepS W (m + 1)) (fun d n ω Q h h1 h2 q => ⟨d, n, rfl, h, by omega, q⟩) ih (by omega)
    exact this

end
end Law

namespace Law
open PySem PySem.Spec PyProof.Rows L2 Tk
section
variable {P : Program} {w : World} {K : PySem.W.Frag} {mg : Str → Option Value} {base : Heap}
/-! ## what is drawn -/
/-- a pick out of some -/
def pickS (p : Addr) (ds : List D) (t : Nat) (Q : D → Nat → Prop) : Prop := ∃ s xs, ds = [.ob p, s] ∧ (s = .lst xs ∨ s = .tup xs ∨ ∃ z, s = .str z ∧ xs = Tk.signs z) ∧ 0 < xs.length ∧ xs.length ≤ 1000 ∧ t < 2 ^ 60 ∧ ∀ x ∈ xs, Q x (t + 1)
theorem atI_in {α : Type} {xs : List α} {k : Int} (h0 : 0 ≤ k) (h1 : k < xs.length) : ∃ x, L2.atI xs k = some x ∧ x ∈ xs := by
  have hk : k.toNat < xs.length := by omega
  refine ⟨xs[k.toNat], ?_, List.getElem_mem hk⟩
  have e := L2.atI_nat (xs := xs) (j := k.toNat) (List.getElem?_eq_getElem hk)
  rw [Int.toNat_of_nonneg h0] at e
  exact e
theorem ok_l_pick {f f1 : Addr} {fd fd1 : FuncData} (D_l_pick : Df K mg "_law_pick" st_l_pick ["_law_pen_here", "_law_some"] f fd) (T : Tb mg) (p : Addr) (D_l_draw : Df K mg "_law_draw" st_l_draw ["_law_pen_here", "_law_many"] f1 fd1) :
    FnG P w K mg base CX0 2 f fd ["_law_pen_here", "_law_some"] (spOf (PenW p) (pickS p)) := by
  have G_l_draw := ok_l_draw (P := P) (w := w) (base := base) D_l_draw T p
  refine okD D_l_pick.F sc_l_pick (by rintro _ _ _ ⟨s, xs, rfl, _⟩; rfl) ?_
  rintro cdv A outer s H E _ t Q gd hr ⟨s, xs, rfl, hs, h0, h1, ht, q⟩
  refine ⟨_, (dss_one (ds_ret (de_ix (de_v 1) (de_cl G_l_draw gd (hr.mono (by decide)) rfl D_l_draw.m D_l_draw.F.kp D_l_draw.b .nil .nil (dl_cons (de_v 0) (dl_cons (de_f1 f_len rfl T.len (by decide +kernel) (de_v 1)) dl_nil)))))), ?_⟩
  have go : ∀ k : Int, 0 ≤ k → k < xs.length → ∃ z, ixD s (.int k) = some z ∧ Q z (t + 1) := by
    intro k k0 k1
    rcases hs with rfl | rfl | ⟨z, rfl, rfl⟩
    · obtain ⟨x, e, hx⟩ := atI_in k0 k1
      exact ⟨x, e, q x hx⟩
    · obtain ⟨x, e, hx⟩ := atI_in k0 k1
      exact ⟨x, e, q x hx⟩
    · rw [signs_len] at k1 h1
      have k1' : k < z.cps.toList.length := by rw [Array.length_toList]; exact k1
      obtain ⟨c, e, hc⟩ := atI_in k0 k1'
      refine ⟨.str ⟨#[c]⟩, ?_, q _ (List.mem_map.mpr ⟨c, hc, rfl⟩)⟩
      show (if z.length ≤ sizeLine then (L2.atI z.cps.toList k).map fun c => D.str ⟨#[c]⟩ else none) = _
      rw [if_pos (line1000 h1), e]
      rfl
  have hl : lenD s = some (.int xs.length) := by
    rcases hs with rfl | rfl | ⟨z, rfl, rfl⟩
    · rfl
    · rfl
    · rw [signs_len] at h1 ⊢
      show (if z.length ≤ sizeLine then some (D.int z.length) else none) = _
      rw [if_pos (line1000 h1)]
  refine ⟨_, rfl, _, rfl, _, rfl, .int xs.length, hl, xs.length, rfl, by omega, by omega, ht, fun k k0 k1 => ?_⟩
  exact go k k0 k1
/-- a cell -/
def lcellS (p : Addr) (ds : List D) (t : Nat) (Q : D → Nat → Prop) : Prop := ds = [.ob p] ∧ t + 12 < 2 ^ 60 ∧ ∀ d t', cellD d = true → t' ≤ t + 12 → Q d t'
theorem ok_l_cell {f f1 f2 : Addr} {fd fd1 fd2 : FuncData} (D_l_cell : Df K mg "_law_cell" st_l_cell ["_law_pen_here"] f fd) (T : Tb mg) (p : Addr) (D_l_draw : Df K mg "_law_draw" st_l_draw ["_law_pen_here", "_law_many"] f1 fd1) (D_l_pick : Df K mg "_law_pick" st_l_pick ["_law_pen_here", "_law_some"] f2 fd2) :
    FnG P w K mg base CX0 3 f fd ["_law_pen_here"] (spOf (PenW p) (lcellS p)) := by
  have G_l_draw := ok_l_draw (P := P) (w := w) (base := base) D_l_draw T p
  have G_l_pick := ok_l_pick (P := P) (w := w) (base := base) D_l_pick T p D_l_draw
  refine okD D_l_cell.F sc_l_cell (by rintro _ _ _ ⟨rfl, _⟩; rfl) ?_
  rintro cdv A outer s H E _ t Q gd hr ⟨rfl, ht, q⟩
  have hu := hr.units
  refine ⟨_, (dss_cons (ds_set (i := 1) sc_l_cell.nd rfl (.inl rfl) (de_op o_mul2 (de_op o_sub (de_op o_sub (de_op o_pow de_int de_int) de_int) (de_cl G_l_draw gd (hr.mono (by decide)) rfl D_l_draw.m D_l_draw.F.kp D_l_draw.b .nil .nil (dl_cons (de_v 0) (dl_cons de_int dl_nil)))) (de_op o_sub de_int (de_op o_mul2 de_int (de_cl G_l_draw gd (hr.mono (by decide)) rfl D_l_draw.m D_l_draw.F.kp D_l_draw.b .nil .nil (dl_cons (de_v 0) (dl_cons de_int dl_nil)))))))
    (dss_cons (ds_own (i := 2) sc_l_cell.nd rfl (.inl rfl) (df_lst (dl_cons de_non (dl_cons (de_cl G_l_draw gd (hr.mono (by decide)) rfl D_l_draw.m D_l_draw.F.kp D_l_draw.b .nil .nil (dl_cons (de_v 0) (dl_cons de_int dl_nil))) (dl_cons (de_cl G_l_draw gd (hr.mono (by decide)) rfl D_l_draw.m D_l_draw.F.kp D_l_draw.b .nil .nil (dl_cons (de_v 0) (dl_cons de_int dl_nil))) (dl_cons (de_op o_sub de_int (de_cl G_l_draw gd (hr.mono (by decide)) rfl D_l_draw.m D_l_draw.F.kp D_l_draw.b .nil .nil (dl_cons (de_v 0) (dl_cons de_int dl_nil)))) (dl_cons (de_cl G_l_pick gd (hr.mono (by decide)) rfl D_l_pick.m D_l_pick.F.kp D_l_pick.b .nil .nil (dl_cons (de_v 0) (dl_cons (de_lst (dl_cons de_int (dl_cons de_int (dl_cons de_int (dl_cons de_int dl_nil))))) dl_nil))) dl_nil)))))))
    (dss_cons (ds_app (i := 2) rfl (.inl rfl) (de_cl G_l_pick gd (hr.mono (by decide)) rfl D_l_pick.m D_l_pick.F.kp D_l_pick.b .nil .nil (dl_cons (de_v 0) (dl_cons (de_lst (dl_cons de_str (dl_cons de_str (dl_cons de_str (dl_cons de_str (dl_cons de_str (dl_cons de_str (dl_cons de_str dl_nil)))))))) dl_nil))))
    (dss_cons (ds_app (i := 2) rfl (.inl rfl) (de_if (dp_cmp (o_eq2 hu) (de_cl G_l_draw gd (hr.mono (by decide)) rfl D_l_draw.m D_l_draw.F.kp D_l_draw.b .nil .nil (dl_cons (de_v 0) (dl_cons de_int dl_nil))) de_int (nomark _)) (de_v 1) (de_op o_sub (de_cl G_l_draw gd (hr.mono (by decide)) rfl D_l_draw.m D_l_draw.F.kp D_l_draw.b .nil .nil (dl_cons (de_v 0) (dl_cons de_int dl_nil))) de_int)))
    (dss_one (ds_ret (de_ix (db_o 2) (de_ix (de_lst (dl_cons de_int (dl_cons de_int (dl_cons de_int (dl_cons de_int (dl_cons de_int (dl_cons de_int (dl_cons de_int (dl_cons de_int (dl_cons de_int (dl_cons de_int dl_nil))))))))))) (de_cl G_l_draw gd (hr.mono (by decide)) rfl D_l_draw.m D_l_draw.F.kp D_l_draw.b .nil .nil (dl_cons (de_v 0) (dl_cons de_int dl_nil))))))))))), ?_⟩
  refine ⟨_, rfl, _, rfl, _, rfl, 3, rfl, by decide, by decide, by omega, fun k1 a1 b1 => ⟨_, rfl, ?_⟩⟩
  refine ⟨_, rfl, 2, rfl, by decide, by decide, by omega, fun k2 a2 b2 => ⟨_, mul_ok (by omega), _, rfl, _, mul_ok (by omega), ?_⟩⟩
  refine ⟨_, rfl, 3, rfl, by decide, by decide, by omega, fun k3 a3 b3 => ⟨_, rfl, 3, rfl, by decide, by decide, by omega, fun k4 a4 b4 => ?_⟩⟩
  refine ⟨_, rfl, 12, rfl, by decide, by decide, by omega, fun k5 a5 b5 => ⟨_, rfl, ?_⟩⟩
  refine ⟨_, rfl, by decide, _, _, rfl, .inl rfl, by decide, by decide, by omega, fun x1 m1 => ⟨(by show 5 ≤ sizeLine; decide), ?_⟩⟩
  refine ⟨_, rfl, _, rfl, by decide, _, _, rfl, .inl rfl, by decide, by decide, by omega, fun x2 m2 => ⟨(by show 5 < sizeLine; decide), ?_⟩⟩
  have h1 : cellD x1 = true := by
    simp only [List.mem_cons, List.not_mem_nil, or_false] at m1
    rcases m1 with rfl | rfl | rfl | rfl <;> decide
  have h2 : cellD x2 = true := by
    simp only [List.mem_cons, List.not_mem_nil, or_false] at m2
    rcases m2 with rfl | rfl | rfl | rfl | rfl | rfl | rfl <;> decide +kernel
  have hi : ∀ i : Int, -999999999999999 ≤ i → i ≤ 999999999999999 → cellD (.int i) = true := by
    intro i l h
    simp [cellD, numD, l, h]
  have fin : ∀ (x : D) (t' : Nat), cellD x = true → t' ≤ t + 11 → dRet (dOp (W := PenW p) ixD (dO 2) (dOp ixD (dLst (dCons (dC (.int 0)) (dCons (dC (.int 1)) (dCons (dC (.int 1)) (dCons (dC (.int 2)) (dCons (dC (.int 2)) (dCons (dC (.int 3)) (dCons (dC (.int 4)) (dCons (dC (.int 5)) (dCons (dC (.int 5)) (dCons (dC (.int 6)) dNil))))))))))) (dCall (drawS p) [] (dCons (dV 0) (dCons (dC (.int 10)) dNil)))))
      { nx := fun _ ω' => Q .non ω', rt := Q } [some (.d (.ob p)), some (.d (.int ((10 ^ 15 - 1 - k1) * (1 - 2 * k2)))), some (.own [.non, .int k3, .int k4, .int (2 - k5), x1, x2, x])] t' := by
    intro x t' hx ht'
    refine .inl ⟨_, rfl, by decide, _, rfl, 10, rfl, by decide, by decide, by omega, fun k a b => ?_⟩
    have hk : k = 0 ∨ k = 1 ∨ k = 2 ∨ k = 3 ∨ k = 4 ∨ k = 5 ∨ k = 6 ∨ k = 7 ∨ k = 8 ∨ k = 9 := by omega
    rcases hk with rfl | rfl | rfl | rfl | rfl | rfl | rfl | rfl | rfl | rfl
    · exact ⟨_, rfl, _, rfl, q _ _ rfl (by omega)⟩
    · exact ⟨_, rfl, _, rfl, q _ _ (hi _ (by omega) (by omega)) (by omega)⟩
    · exact ⟨_, rfl, _, rfl, q _ _ (hi _ (by omega) (by omega)) (by omega)⟩
    · exact ⟨_, rfl, _, rfl, q _ _ (hi _ (by omega) (by omega)) (by omega)⟩
    · exact ⟨_, rfl, _, rfl, q _ _ (hi _ (by omega) (by omega)) (by omega)⟩
    · exact ⟨_, rfl, _, rfl, q _ _ (hi _ (by omega) (by omega)) (by omega)⟩
    · exact ⟨_, rfl, _, rfl, q _ _ h1 (by omega)⟩
    · exact ⟨_, rfl, _, rfl, q _ _ h2 (by omega)⟩
    · exact ⟨_, rfl, _, rfl, q _ _ h2 (by omega)⟩
    · exact ⟨_, rfl, _, rfl, q _ _ hx (by omega)⟩
  refine ⟨_, rfl, _, rfl, 4, rfl, by decide, by decide, by omega, fun k6 a6 b6 => ⟨_, eqi, _, rfl, ?_⟩⟩
  refine ite_i (fun _ => ?_) fun _ => ?_
  · refine ⟨_, rfl, (by show 6 < sizeLine; decide), fin _ _ ?_ (by omega)⟩
    have hk : k2 = 0 ∨ k2 = 1 := by omega
    have e15 : (10 : Int) ^ Int.toNat 15 = 1000000000000000 := by decide
    rcases hk with rfl | rfl
    · exact hi _ (by omega) (by omega)
    · exact hi _ (by omega) (by omega)
  · refine ⟨_, rfl, 1000, rfl, by decide, by decide, by omega, fun k7 a7 b7 => ⟨_, rfl, (by show 6 < sizeLine; decide), fin _ _ (hi _ (by omega) (by omega)) (by omega)⟩⟩

end
end Law

namespace Law
open PySem PySem.Spec PyProof.Rows L2 Tk
section
variable {P : Program} {w : World} {K : PySem.W.Frag} {mg : Str → Option Value} {base : Heap}
/-! ## nested things -/
theorem ix_i {xs : List D} {k : Int} {Q : D → Prop} {n : Nat} (h0 : 0 ≤ k) (hn : xs.length = n) (h1 : k < n) (q : ∀ x ∈ xs, Q x) : ∃ z, ixD (.lst xs) (.int k) = some z ∧ Q z := by
  obtain ⟨x, e, hx⟩ := atI_in h0 (show k < xs.length by rw [hn]; exact h1)
  exact ⟨x, e, q x hx⟩
def nestD : Nat → D → D
  | 0, d => d
  | n + 1, d => .tup [nestD n d]
theorem nest_sh {B N K : Nat} {d : D} (h : Sh B N K d) : ∀ n : Nat, Sh B (N + n) (K + n) (nestD n d)
  | 0 => h
  | n + 1 => Sh.tup (m := 1) (n := N + n) (k := K + n) (fun x hx => by rw [List.mem_singleton.mp hx]; exact nest_sh h n) (Nat.le_refl _) (by decide) (by omega) (by omega)
theorem ok_l_nested {f : Addr} {fd : FuncData} (D_l_nested : Df K mg "_law_nested" st_l_nested ["_law_thing_here", "_law_deep"] f fd) (T : Tb mg) (W : Wo) : FnG P w K mg base CX0 1 f fd ["_law_thing_here", "_law_deep"] (spOf W fun ds ω Q => ∃ d n, ds = [d, .int n] ∧ 0 ≤ n ∧ n ≤ 1000 ∧ Q (nestD n.toNat d) ω) := by
  refine okD D_l_nested.F sc_l_nested (by rintro _ _ _ ⟨_, _, rfl, _⟩; rfl) ?_
  rintro cdv A outer s H E _ ω Q gd hr ⟨d, n, rfl, h0, h1, q⟩
  refine ⟨_, (dss_cons (ds_for PassesOwn.never rfl (di_rng1 rfl T.range (de_v 1)) (gf_name 2) (pg_name (i := 2) sc_l_nested.nd rfl (.inl rfl))
      (dss_one (ds_set (i := 0) sc_l_nested.nd rfl (.inl rfl) (de_tup (dl_cons (de_v 0) dl_nil)))))
    (dss_one (ds_ret (de_v 0)))), ?_⟩
  refine ⟨_, rfl, n, rfl, by omega, by omega, forW_inv (fun j ρ ω' => ω' = ω ∧ ∃ x, ρ = [some (.d (nestD j d)), some (.d (.int n)), x]) _ (i := 0) ⟨rfl, none, rfl⟩ ?_ ?_⟩
  · rintro j x ρ ω' hx ⟨rfl, y, rfl⟩
    refine ⟨_, rfl, fun nx hn => ⟨_, rfl, (by show 1 ≤ sizeLine; decide), hn _ _ ⟨rfl, some (.d x), rfl⟩⟩⟩
  · rintro ρ ω' ⟨rfl, y, rfl⟩
    refine ⟨_, rfl, ?_⟩
    rw [rngD_length, Nat.zero_add]
    exact q
/-- a thing grown with so many turns -/
def growS (p : Addr) (m : Int) (C N K : Nat) (ds : List D) (t : Nat) (Q : D → Nat → Prop) : Prop := ∃ k : Int, ds = [.ob p, .int k] ∧ k < m ∧ t + C < 2 ^ 60 ∧ ∀ d t', Sh 45 N K d → t' ≤ t + C → Q d t'
theorem odd_step {f f1 : Addr} {fd fd1 : FuncData} {j C N L : Nat} (D_l_odd : Df K mg "_law_odd" st_l_odd ["_law_pen_here", "_law_deep"] f fd) (T : Tb mg) (p : Addr) (D_l_draw : Df K mg "_law_draw" st_l_draw ["_law_pen_here", "_law_many"] f1 fd1)
    (m : Int) (S : Spd (PenW p)) (hS : ∀ (k : Int) (t : Nat) (Q : D → Nat → Prop), 0 ≤ k → k + 1 < m → t + C < 2 ^ 60 → (∀ d t', Sh 45 N L d → t' ≤ t + C → Q d t') → S [.ob p, .int k] t Q) (hN : 140 ≤ N)
    (G_l_odd : FnG P w K mg base CX0 j f fd ["_law_pen_here", "_law_deep"] (spOf (PenW p) S)) (hj : 1 ≤ j) : FnG P w K mg base CX0 (j + 1) f fd ["_law_pen_here", "_law_deep"] (spOf (PenW p) (growS p m (2 * C + 2) (2 * N + 5) (L + 2))) := by
  have G_l_draw := ok_l_draw (P := P) (w := w) (base := base) D_l_draw T p
  refine okD D_l_odd.F sc_l_odd (by rintro _ _ _ ⟨_, rfl, _⟩; rfl) ?_
  rintro cdv A outer s H E _ (t : Nat) Q gd hr ⟨k, rfl, hk, ht, q⟩
  refine ⟨_, (dss_cons (ds_frzLc 2 (ds_ownLc (i := 2) (own := [("_law_k", 4)]) rfl sc_l_odd.nd rfl rfl (sw_true rfl rfl rfl (by decide +kernel)) (di_rng1 rfl T.range (de_if (dp_cmp o_gt (de_v 1) de_int (nomark _)) (de_cl G_l_draw gd (hr.mono (by omega)) rfl D_l_draw.m D_l_draw.F.kp D_l_draw.b .nil .nil (dl_cons (de_v 0) (dl_cons de_int dl_nil))) de_int)) (blkOk_by (own := [("_law_k", 4)]) (N := ["_law_pen_here", "_law_deep", "_law_inner", "_law_some", "_law_k"]) (sc := defScope st_l_odd) (by decide +kernel)) (gf_name 4) (fun _ _ _ _ _ => (pg_name (i := 4) sc_l_odd.nd rfl (.inl rfl))) ts_nil (fun _ _ _ _ _ => (de_cl G_l_odd gd (hr.mono (by omega)) rfl D_l_odd.m D_l_odd.F.kp D_l_odd.b .nil .nil (dl_cons (de_v 0) (dl_cons (de_op o_sub (de_v 1) de_int) dl_nil))))))
    (dss_cons (ds_set (i := 3) sc_l_odd.nd rfl (.inl rfl) (de_lst (dl_cons de_non (dl_cons de_bl (dl_cons de_bl (dl_cons de_int (dl_cons de_int (dl_cons (de_neg de_int) (dl_cons (de_op o_sub (de_op o_pow de_int de_int) de_int) (dl_cons (de_op o_pow de_int de_int) (dl_cons (de_op o_sub de_int (de_op o_pow de_int de_int)) (dl_cons (de_neg (de_op o_pow de_int de_int)) (dl_cons (de_op o_pow de_int de_int) (dl_cons de_str (dl_cons de_str dl_nil)))))))))))))))
    (dss_cons (ds_set (i := 3) sc_l_odd.nd rfl (.inl rfl) (de_op o_add (de_v 3) (de_lst (dl_cons (de_op o_mul2 de_str de_int) (dl_cons (de_op o_mul2 de_str de_int) (dl_cons (de_op o_mul2 de_str de_int) (dl_cons (de_op o_mul2 de_str de_int) (dl_cons de_str (dl_cons de_str (dl_cons de_str (dl_cons de_str (dl_cons de_str (dl_cons de_str (dl_cons (de_lst dl_nil) (dl_cons de_d0 (dl_cons (de_tup dl_nil) dl_nil))))))))))))))))
    (dss_cons (ds_set (i := 3) sc_l_odd.nd rfl (.inl rfl) (de_op o_add (de_v 3) (de_lst (dl_cons (de_f1T f_tuple rfl T.tuple (by decide +kernel) (de_v 2)) (dl_cons (de_f1T f_tuple rfl T.tuple (by decide +kernel) (de_v 2)) (dl_cons (de_f1T f_tuple rfl T.tuple (by decide +kernel) (de_v 2)) (dl_cons (de_f1T f_list rfl T.list (by decide +kernel) (de_v 2)) (dl_cons (de_disp (dps_cons (de_f1T f_tuple rfl T.tuple (by decide +kernel) (de_v 2)) dps_nil) (by decide) rfl rfl (fun z => by cases z) (by decide)) dl_nil))))))))
    (dss_one (ds_ret (de_ix (de_v 3) (de_cl G_l_draw gd (hr.mono (by omega)) rfl D_l_draw.m D_l_draw.F.kp D_l_draw.b .nil .nil (dl_cons (de_v 0) (dl_cons (de_f1 f_len rfl T.len (by decide +kernel) (de_v 3)) dl_nil)))))))))), ?_⟩
  refine cut (W := PenW p) (te := dIf _ _ _) (fun d (t' : Nat) => ∃ n : Int, d = .int n ∧ 0 ≤ n ∧ n ≤ 2 ∧ t' ≤ t + 1 ∧ (0 < n → 0 < k)) (fun Q' hq => ?_) ?_
  · refine ⟨_, rfl, _, rfl, _, rfl, ite_i (fun h => ?_) fun _ => ?_⟩
    · have h' : 0 < k := by simpa using h
      exact ⟨_, rfl, 3, rfl, by decide, by decide, by omega, fun n a b => hq _ _ ⟨n, rfl, a, by omega, Nat.le_refl _, fun _ => h'⟩⟩
    · exact hq _ _ ⟨0, rfl, by omega, by omega, Nat.le_succ _, fun z => absurd z (by decide)⟩
  rintro _ (t1 : Nat) ⟨n, rfl, n0, n2, h1, hp⟩
  refine ⟨n, rfl, by omega, by omega, lcW_inv (W := PenW p) (fun i acc (t' : Nat) => acc.length = i ∧ (∀ x ∈ acc, Sh 45 N L x) ∧ t' ≤ t1 + i * C) _ _ (i := 0) ?_ ⟨rfl, (fun x hx => absurd hx List.not_mem_nil), (by omega)⟩ ?_ ?_⟩
  · rw [rngD_length]; exact line1000 (by show 0 + n.toNat ≤ 1000; omega)
  · rintro i x acc (t2 : Nat) hx ⟨e, ha, hb⟩
    obtain ⟨hi, rfl⟩ := rngD_at hx
    have hi2 : 0 + i = 0 ∨ 0 + i = 1 := by omega
    have hb' : t2 ≤ t1 + C := by rcases hi2 with z | z <;> rw [z] at hb <;> omega
    refine ⟨_, rfl, fun Q' hq => ⟨_, rfl, _, rfl, _, rfl, hS _ _ _ (by omega) (by omega) (by omega) fun d t' hd h' => hq _ _ ⟨by simp [e], ?_, ?_⟩⟩⟩
    · intro y hy
      rcases List.mem_append.mp hy with hy | hy
      · exact ha y hy
      · rw [List.mem_singleton.mp hy]; exact hd
    · rcases hi2 with z | z <;> rw [z] at hb ⊢ <;> omega
  · rintro xs (t2 : Nat) ⟨e, ha, hb⟩
    rw [rngD_length, Nat.zero_add] at e hb
    have hl : xs.length ≤ 2 := by omega
    have ht2 : t2 ≤ t + 2 * C + 1 := by
      have : n.toNat * C ≤ 2 * C := Nat.mul_le_mul_right _ (by omega)
      omega
    refine ⟨_, rfl, _, rfl, by show 2 < 5; decide, ?_⟩
    refine ⟨_, rfl, _, rfl, _, rfl, _, rfl, _, rfl, _, rfl, _, rfl, _, rfl, _, rfl, by decide, ?_⟩
    refine ⟨_, rfl, _, rfl, _, rfl, _, rfl, _, rfl, by decide, by decide, by decide, _, rfl, ?_⟩
    refine ⟨_, rfl, _, rfl, _, rfl, _, rfl, _, rfl, _, rfl, _, rfl, _, rfl, _, rfl, _, rfl, _, rfl, (by show 5 ≤ sizeLine; decide), _, rfl, ?_⟩
    refine ⟨_, rfl, _, rfl, _, rfl, _, rfl, 31, rfl, by decide, by decide, by omega, fun i i0 i1 => ?_⟩
    refine ix_i (n := 31) i0 rfl (by omega) fun x hx => q _ _ ?_ (by show t2 + 1 ≤ _; omega)
    have ht : Sh 45 (2 * (N + 1)) (L + 1) (.tup xs) := Sh.tup ha hl (by decide) (Nat.le_refl _) (Nat.le_refl _)
    simp only [List.mem_append, List.mem_cons, List.not_mem_nil, or_false] at hx
    have fin : ∀ d : D, shB 45 140 2 d = true → Sh 45 (2 * N + 5) (L + 2) d := fun d h => (Sh.of h).le (by omega) (by omega)
    rcases hx with ((rfl | rfl | rfl | rfl | rfl | rfl | rfl | rfl | rfl | rfl | rfl | rfl | rfl) | (rfl | rfl | rfl | rfl | rfl | rfl | rfl | rfl | rfl | rfl | rfl | rfl | rfl)) | rfl | rfl | rfl | rfl | rfl
    all_goals first | exact fin _ (by decide +kernel) | exact ht.le (by omega) (by omega) | skip
    · exact Sh.lst ha hl (by decide) (by omega) (by omega)
    · show Sh 45 _ _ (.dic [(.inr ("a" : Str), .tup xs)])
      exact Sh.dic1 ht (m := 1) (by decide +kernel) (by omega) (by omega)
theorem ok_l_odd {f f1 : Addr} {fd fd1 : FuncData} (D_l_odd : Df K mg "_law_odd" st_l_odd ["_law_pen_here", "_law_deep"] f fd) (T : Tb mg) (p : Addr) (D_l_draw : Df K mg "_law_draw" st_l_draw ["_law_pen_here", "_law_many"] f1 fd1) :
    FnG P w K mg base CX0 5 f fd ["_law_pen_here", "_law_deep"] (spOf (PenW p) (growS p 4 30 2315 8)) := by
  have g1 := odd_step (P := P) (w := w) (base := base) (j := 1) (C := 0) (N := 140) (L := 0) D_l_odd T p D_l_draw 1 (fun _ _ _ => False) (fun k t Q a b => by omega) (by decide) FnG.no (by decide)
  have g2 := odd_step (P := P) (w := w) (base := base) D_l_odd T p D_l_draw 2 _ (fun k t Q a b c d => ⟨k, rfl, by omega, c, d⟩) (by decide) g1 (by decide)
  have g3 := odd_step (P := P) (w := w) (base := base) D_l_odd T p D_l_draw 3 _ (fun k t Q a b c d => ⟨k, rfl, by omega, c, d⟩) (by decide) g2 (by decide)
  exact odd_step (P := P) (w := w) (base := base) D_l_odd T p D_l_draw 4 _ (fun k t Q a b c d => ⟨k, rfl, by omega, c, d⟩) (by decide) g3 (by decide)
theorem abc_small : ∀ c ∈ abc.cps.toList, c < 128 := by decide +kernel
theorem cell_sh {d : D} (h : cellD d = true) : Sh 45 100 0 d := by
  cases d <;> first | exact Sh.non | exact Sh.bl | skip
  · rename_i i
    simp [cellD, numD, wordD] at h
    exact Sh.int (by omega) (by decide) (by decide)
  · rename_i x
    simp [cellD, numD, wordD] at h
    obtain ⟨⟨h1, h2⟩, h3⟩ := h
    have hs : ∀ c ∈ x.cps.toList, c < 128 := fun c hc => abc_small c (of_decide_eq_true (List.all_eq_true.mp h3 c hc))
    refine ⟨?_, rfl, rfl, ?_, ?_, Nat.zero_le _⟩
    · show (decide (x.length ≤ 1000) && PyData.strOk x) = true
      rw [Bool.and_eq_true, decide_eq_true_eq]
      refine ⟨by omega, ?_⟩
      show x.cps.all (· < 0x110000) = true
      rw [← Array.all_toList, List.all_eq_true]
      intro c hc
      have := hs c hc
      simp; omega
    · show (x.cps.toList.all fun c => decide (c < 16 ^ 8)) = true
      rw [List.all_eq_true]
      intro c hc
      have := hs c hc
      simp; omega
    · show x.length ≤ 100
      omega
  all_goals simp [cellD, numD, wordD] at h
theorem thing_step {f f1 f2 f3 : Addr} {fd fd1 fd2 fd3 : FuncData} {j C N L : Nat} (D_l_thing : Df K mg "_law_thing" st_l_thing ["_law_pen_here", "_law_deep"] f fd) (T : Tb mg) (p : Addr) (D_l_draw : Df K mg "_law_draw" st_l_draw ["_law_pen_here", "_law_many"] f1 fd1)
    (D_l_pick : Df K mg "_law_pick" st_l_pick ["_law_pen_here", "_law_some"] f2 fd2) (D_l_cell : Df K mg "_law_cell" st_l_cell ["_law_pen_here"] f3 fd3)
    (m : Int) (S : Spd (PenW p)) (hS : ∀ (k : Int) (t : Nat) (Q : D → Nat → Prop), 0 ≤ k → k + 1 < m → t + C < 2 ^ 60 → (∀ d t', Sh 45 N L d → t' ≤ t + C → Q d t') → S [.ob p, .int k] t Q) (hN : 100 ≤ N)
    (G_l_thing : FnG P w K mg base CX0 j f fd ["_law_pen_here", "_law_deep"] (spOf (PenW p) S)) (hj : 3 ≤ j) : FnG P w K mg base CX0 (j + 1) f fd ["_law_pen_here", "_law_deep"] (spOf (PenW p) (growS p m (3 * C + 13) (3 * (N + 1)) (L + 1))) := by
  have G_l_draw := ok_l_draw (P := P) (w := w) (base := base) D_l_draw T p
  have G_l_cell := ok_l_cell (P := P) (w := w) (base := base) D_l_cell T p D_l_draw D_l_pick
  refine okD D_l_thing.F sc_l_thing (by rintro _ _ _ ⟨_, rfl, _⟩; rfl) ?_
  rintro cdv A outer s H E _ (t : Nat) Q gd hr ⟨k, rfl, hk, ht, q⟩
  refine ⟨_, (dss_cons (ds_if (DW.dp (dw_and (dp_cmp o_gt (de_v 1) de_int (nomark _)) (dw_and1 (dp_cmp o_gt (de_cl G_l_draw gd (hr.mono (by omega)) rfl D_l_draw.m D_l_draw.F.kp D_l_draw.b .nil .nil (dl_cons (de_v 0) (dl_cons de_int dl_nil))) de_int (nomark _))))) (dss_one (ds_ret (de_f1T f_tuple rfl T.tuple (by decide +kernel) (de_lc (own := [("_law_k", 2)]) rfl sc_l_thing.nd (di_rng1 rfl T.range (de_cl G_l_draw gd (hr.mono (by omega)) rfl D_l_draw.m D_l_draw.F.kp D_l_draw.b .nil .nil (dl_cons (de_v 0) (dl_cons de_int dl_nil)))) (blkOk_by (own := [("_law_k", 2)]) (N := ["_law_pen_here", "_law_deep", "_law_k"]) (sc := defScope st_l_thing) (by decide +kernel)) (gf_name 2) (fun _ _ _ _ _ => (pg_name (i := 2) sc_l_thing.nd rfl (.inl rfl))) ts_nil (fun _ _ _ _ _ => (de_cl G_l_thing gd (hr.mono (by omega)) rfl D_l_thing.m D_l_thing.F.kp D_l_thing.b .nil .nil (dl_cons (de_v 0) (dl_cons (de_op o_sub (de_v 1) de_int) dl_nil)))))))) dss_nil)
    (dss_one (ds_ret (de_cl G_l_cell gd (hr.mono (by omega)) rfl D_l_cell.m D_l_cell.F.kp D_l_cell.b .nil .nil (dl_cons (de_v 0) dl_nil))))), ?_⟩
  have cell : ∀ t' : Nat, t' ≤ t + 1 → dRet (dCall (W := PenW p) (lcellS p) [] (dCons (dV 0) dNil)) { nx := fun _ ω' => Q .non ω', rt := Q } [some (.d (.ob p)), some (.d (.int k)), none] t' := fun t' h => 
    ⟨_, rfl, rfl, by omega, fun d t2 hd h2 => q _ _ ((cell_sh hd).le (by omega) (by omega)) (by omega)⟩
  refine ⟨_, rfl, _, rfl, _, rfl, ite_i (fun h => ?_) fun _ => ite_i (fun h => absurd h (by decide)) fun _ => cell t (by omega)⟩
  have h' : 0 < k := by simpa using h
  refine ⟨_, rfl, 3, rfl, by decide, by decide, by omega, fun k1 a1 b1 => ⟨_, rfl, _, rfl, ite_i (fun _ => ?_) fun _ => cell _ (Nat.le_refl _)⟩⟩
  refine ⟨_, rfl, 4, rfl, by decide, by decide, by omega, fun n n0 n4 => ?_⟩
  refine ⟨n, rfl, by omega, by omega, lcW_inv (W := PenW p) (fun i acc (t' : Nat) => acc.length = i ∧ (∀ x ∈ acc, Sh 45 N L x) ∧ t' ≤ t + 2 + i * C) _ _ (i := 0) ?_ ⟨rfl, (fun x hx => absurd hx List.not_mem_nil), (by omega)⟩ ?_ ?_⟩
  · rw [rngD_length]; exact line1000 (by show 0 + n.toNat ≤ 1000; omega)
  · rintro i x acc (t2 : Nat) hx ⟨e, ha, hb⟩
    obtain ⟨hi, rfl⟩ := rngD_at hx
    have hi2 : 0 + i = 0 ∨ 0 + i = 1 ∨ 0 + i = 2 := by omega
    have hb' : t2 ≤ t + 2 + 2 * C := by rcases hi2 with z | z | z <;> rw [z] at hb <;> omega
    refine ⟨_, rfl, fun Q' hq => ⟨_, rfl, _, rfl, _, rfl, hS _ _ _ (by omega) (by omega) (by omega) fun d t' hd h' => hq _ _ ⟨by simp [e], ?_, ?_⟩⟩⟩
    · intro y hy
      rcases List.mem_append.mp hy with hy | hy
      · exact ha y hy
      · rw [List.mem_singleton.mp hy]; exact hd
    · rcases hi2 with z | z | z <;> rw [z] at hb ⊢ <;> omega
  · rintro xs (t2 : Nat) ⟨e, ha, hb⟩
    rw [rngD_length, Nat.zero_add] at e hb
    have hl : xs.length ≤ 3 := by omega
    have ht2 : t2 ≤ t + 2 + 3 * C := by
      have : n.toNat * C ≤ 3 * C := Nat.mul_le_mul_right _ (by omega)
      omega
    exact ⟨_, rfl, q _ _ (Sh.tup ha hl (by decide) (Nat.le_refl _) (Nat.le_refl _)) (by omega)⟩
theorem ok_l_thing {f f1 f2 f3 : Addr} {fd fd1 fd2 fd3 : FuncData} (D_l_thing : Df K mg "_law_thing" st_l_thing ["_law_pen_here", "_law_deep"] f fd) (T : Tb mg) (p : Addr) (D_l_draw : Df K mg "_law_draw" st_l_draw ["_law_pen_here", "_law_many"] f1 fd1)
    (D_l_pick : Df K mg "_law_pick" st_l_pick ["_law_pen_here", "_law_some"] f2 fd2) (D_l_cell : Df K mg "_law_cell" st_l_cell ["_law_pen_here"] f3 fd3) :
    FnG P w K mg base CX0 8 f fd ["_law_pen_here", "_law_deep"] (spOf (PenW p) (growS p 5 1573 24663 5)) := by
  have g1 := thing_step (P := P) (w := w) (base := base) (j := 3) (C := 0) (N := 100) (L := 0) D_l_thing T p D_l_draw D_l_pick D_l_cell 1 (fun _ _ _ => False) (fun k t Q a b => by omega) (by decide) FnG.no (by decide)
  have g2 := thing_step (P := P) (w := w) (base := base) D_l_thing T p D_l_draw D_l_pick D_l_cell 2 _ (fun k t Q a b c d => ⟨k, rfl, by omega, c, d⟩) (by decide) g1 (by decide)
  have g3 := thing_step (P := P) (w := w) (base := base) D_l_thing T p D_l_draw D_l_pick D_l_cell 3 _ (fun k t Q a b c d => ⟨k, rfl, by omega, c, d⟩) (by decide) g2 (by decide)
  have g4 := thing_step (P := P) (w := w) (base := base) D_l_thing T p D_l_draw D_l_pick D_l_cell 4 _ (fun k t Q a b c d => ⟨k, rfl, by omega, c, d⟩) (by decide) g3 (by decide)
  exact thing_step (P := P) (w := w) (base := base) D_l_thing T p D_l_draw D_l_pick D_l_cell 5 _ (fun k t Q a b c d => ⟨k, rfl, by omega, c, d⟩) (by decide) g4 (by decide)

end
end Law

namespace Law
open PySem PySem.Spec PyProof.Rows L2 Tk
section
variable {P : Program} {w : World} {K : PySem.W.Frag} {mg : Str → Option Value} {base : Heap}
/-! ## the pen is made -/
theorem ok_l_pen {f : Addr} {fd : FuncData} (D_l_pen : Df K mg "_law_pen" st_l_pen ["_law_script"] f fd) (T : Tb mg) : FnG P w K mg base CX0 1 f fd ["_law_script"] (penSp K 63) := by
  refine okG D_l_pen.F sc_l_pen (fun vs H Q E ⟨a, ns, e, _⟩ => by rw [e]; rfl) (fun cdv A outer s H vs Q E gd hr ⟨a, ns, e, hl, q⟩ => ?_)
  subst e
  refine ⟨_, pss_one (ps_ret (pe_disp (pps_cons pe_str (pe_callTy call_list_of rfl T.list (by decide +kernel) (pa_cons (pe_slice sl_list (pv 0) po_none (po_some pe_int)) pa_nil)) (pps_cons pe_str pe_int (pps_cons pe_str pe_int pps_nil))) rfl rfl (fun z => by cases z) (by decide))), ?_⟩
  intro p hp
  have x1 : ∀ b o, H b = some o → (upd H p (.dK [])) b = some o := fun b o e => same_upd hp b o e
  refine ⟨.ref a, rfl, 63, rfl, a, _, rfl, sqL_mono hl x1, fun s1 hs1 => ?_⟩
  have x2 : ∀ b o, (upd H p (.dK [])) b = some o → (upd (upd H p (.dK [])) s1 (.lst (cutV (ns.map V.int) none (some 63)))) b = some o := fun b o e => same_upd hs1 b o e
  refine ⟨s1, _, rfl, .inl (SqL.of upd_same), fun l hl' => ?_⟩
  have pl : H l = none := by
    cases e : H l with
    | none => rfl
    | some o => rw [x2 l o (x1 l o e)] at hl'; cases hl'
  have npl : p ≠ l := fun e => by subst e; rw [x2 _ _ upd_same] at hl'; cases hl'
  have hpp : (upd (upd (upd H p (.dK [])) s1 (.lst (cutV (ns.map V.int) none (some 63)))) l (.lst (cutV (ns.map V.int) none (some 63)))) p = some (.dK []) := by
    rw [upd_ne npl]
    exact x2 _ _ upd_same
  refine ⟨hpp, [(kC, .ref l), (kT, .int 0), (kR, .int 0)], rfl, (by show 3 ≤ 15; decide), q p l ((ns.drop (HT.sIx ns.length 0 none)).take (HT.sIx ns.length ns.length (some 63) - HT.sIx ns.length 0 none)) _ hp pl ?_ ?_ ?_ ?_⟩
  · rw [List.length_take, HT.sIx_none]
    have := HT.sIx_nat ns.length ns.length 63
    have e : HT.sIx ns.length ns.length (some 63) = min 63 ns.length := this
    omega
  · intro b o e
    have nb : b ≠ p := ne_of_none e hp
    rw [upd_ne nb]
    exact same_upd hl' b o (x2 b o (x1 b o e))
  · rw [upd_same]
    rfl
  · rw [upd_ne npl.symm, upd_same, cutV_ints]
/-! ## the law -/
theorem ok_law {f_law : Addr} {fd_law : FuncData} (D_law : Df K mg "law" st_law ["_law_script"] f_law fd_law)
    {f_l_pen : Addr} {fd_l_pen : FuncData} (D_l_pen : Df K mg "_law_pen" st_l_pen ["_law_script"] f_l_pen fd_l_pen)
    {f_l_draw : Addr} {fd_l_draw : FuncData} (D_l_draw : Df K mg "_law_draw" st_l_draw ["_law_pen_here", "_law_many"] f_l_draw fd_l_draw)
    {f_l_pick : Addr} {fd_l_pick : FuncData} (D_l_pick : Df K mg "_law_pick" st_l_pick ["_law_pen_here", "_law_some"] f_l_pick fd_l_pick)
    {f_l_cell : Addr} {fd_l_cell : FuncData} (D_l_cell : Df K mg "_law_cell" st_l_cell ["_law_pen_here"] f_l_cell fd_l_cell)
    {f_l_odd : Addr} {fd_l_odd : FuncData} (D_l_odd : Df K mg "_law_odd" st_l_odd ["_law_pen_here", "_law_deep"] f_l_odd fd_l_odd)
    {f_l_nested : Addr} {fd_l_nested : FuncData} (D_l_nested : Df K mg "_law_nested" st_l_nested ["_law_thing_here", "_law_deep"] f_l_nested fd_l_nested)
    {f_l_thing : Addr} {fd_l_thing : FuncData} (D_l_thing : Df K mg "_law_thing" st_l_thing ["_law_pen_here", "_law_deep"] f_l_thing fd_l_thing)
    {f_l_whole : Addr} {fd_l_whole : FuncData} (D_l_whole : Df K mg "_law_whole" st_l_whole ["_law_thing_here", "_law_low", "_law_high"] f_l_whole fd_l_whole)
    {f_l_letters : Addr} {fd_l_letters : FuncData} (D_l_letters : Df K mg "_law_letters" st_l_letters ["_law_thing_here", "_law_most"] f_l_letters fd_l_letters)
    {f_l_is_cell : Addr} {fd_l_is_cell : FuncData} (D_l_is_cell : Df K mg "_law_is_cell" st_l_is_cell ["_law_thing_here"] f_l_is_cell fd_l_is_cell)
    {f_l_is_thing : Addr} {fd_l_is_thing : FuncData} (D_l_is_thing : Df K mg "_law_is_thing" st_l_is_thing ["_law_thing_here", "_law_deep"] f_l_is_thing fd_l_is_thing)
    {f_is_whole : Addr} {fd_is_whole : FuncData} (D_is_whole : Df K mg "is_whole" st_is_whole ["thing"] f_is_whole fd_is_whole)
    {f_is_word : Addr} {fd_is_word : FuncData} (D_is_word : Df K mg "is_word" st_is_word ["thing", "most"] f_is_word fd_is_word)
    {f_is_name : Addr} {fd_is_name : FuncData} (D_is_name : Df K mg "is_name" st_is_name ["thing"] f_is_name fd_is_name)
    {f_is_cell : Addr} {fd_is_cell : FuncData} (D_is_cell : Df K mg "is_cell" st_is_cell ["thing"] f_is_cell fd_is_cell)
    {f_is_deep_thing : Addr} {fd_is_deep_thing : FuncData} (D_is_deep_thing : Df K mg "is_deep_thing" st_is_deep_thing ["thing", "deep"] f_is_deep_thing fd_is_deep_thing)
    {f_is_thing : Addr} {fd_is_thing : FuncData} (D_is_thing : Df K mg "is_thing" st_is_thing ["thing"] f_is_thing fd_is_thing)
    {f_is_number : Addr} {fd_is_number : FuncData} (D_is_number : DfD K mg "is_number" st_is_number ["thing", "low", "high"] [V.int (-999999999999999), V.int 999999999999999] f_is_number fd_is_number)
    (T : Tb mg) (hbs : BaseS base) : FnG P w K mg base CX0 18 f_law fd_law ["_law_script"] (lawSp K) := by
  have G_l_pen := ok_l_pen (P := P) (w := w) (base := base) D_l_pen T
  have G_l_draw := fun p => ok_l_draw (P := P) (w := w) (base := base) D_l_draw T p
  have G_l_odd := fun p => ok_l_odd (P := P) (w := w) (base := base) D_l_odd T p D_l_draw
  have G_l_nested := fun p => ok_l_nested (P := P) (w := w) (base := base) D_l_nested T (PenW p)
  have G_l_thing := fun p => ok_l_thing (P := P) (w := w) (base := base) D_l_thing T p D_l_draw D_l_pick D_l_cell
  have G_l_letters := fun p => ok_l_letters (P := P) (w := w) (base := base) D_l_letters T (PenW p)
  have G_l_is_cell := fun p => ok_l_is_cell (P := P) (w := w) (base := base) D_l_is_cell T (PenW p) D_l_letters D_l_whole
  have G_l_is_thing := fun p => ok_ldeep (P := P) (w := w) (base := base) D_l_is_thing T (PenW p) D_l_is_cell (G_l_is_cell p) 12
  have G_is_name := fun p => ok_is_name (P := P) (w := w) (base := base) D_is_name T (PenW p) D_is_word
  have G_is_cell := fun p => ok_is_cell (P := P) (w := w) (base := base) D_is_cell T (PenW p) D_is_word D_is_whole D_is_number
  have G_is_thing := fun p => ok_is_thing (P := P) (w := w) (base := base) D_is_thing T (PenW p) D_is_deep_thing (ok_deep (P := P) (w := w) (base := base) D_is_deep_thing T (PenW p) D_is_cell (G_is_cell p) 12)
  refine okG D_law.F sc_law (fun vs H Q E ⟨a, ns, e, _⟩ => by rw [e]; rfl) (fun cdv A outer s H vs Q E gd hr ⟨a, ns, e, hl, q⟩ => ?_)
  subst e
  have hu := hr.units
  refine ⟨_, pss_cons (ps_set (i := 1) sc_law.nd rfl (.inl rfl) (pe_cl G_l_pen gd (hr.mono (by decide)) rfl D_l_pen.m D_l_pen.F.kp D_l_pen.b .nil pass0 (pa_cons (pv 0) pa_nil))) (pss_any (Wf := PenW) (fun p => (dss_cons (ds_for PassesOwn.never rfl (di_rng1 rfl T.range de_int) (gf_name 2) (pg_name (i := 2) sc_law.nd rfl (.inl rfl))
      (dss_cons (ds_set (i := 3) sc_law.nd rfl (.inl rfl) (de_cl (G_l_odd p) gd (hr.mono (by decide)) rfl D_l_odd.m D_l_odd.F.kp D_l_odd.b .nil .nil (dl_cons (de_v 1) (dl_cons de_int dl_nil))))
      (dss_cons (ds_set (i := 4) sc_law.nd rfl (.inl rfl) (de_cl (G_l_draw p) gd (hr.mono (by decide)) rfl D_l_draw.m D_l_draw.F.kp D_l_draw.b .nil .nil (dl_cons (de_v 1) (dl_cons de_int dl_nil))))
      (dss_cons (ds_if (dp_cmp (o_eq2 hu) (de_v 4) de_int (nomark _)) (dss_one (ds_set (i := 3) sc_law.nd rfl (.inl rfl) (de_tup (dl_cons de_int (dl_cons (de_cl (G_l_nested p) gd (hr.mono (by decide)) rfl D_l_nested.m D_l_nested.F.kp D_l_nested.b .nil .nil (dl_cons (de_cl (G_l_odd p) gd (hr.mono (by decide)) rfl D_l_odd.m D_l_odd.F.kp D_l_odd.b .nil .nil (dl_cons (de_v 1) (dl_cons de_int dl_nil))) (dl_cons (de_op o_add de_int (de_cl (G_l_draw p) gd (hr.mono (by decide)) rfl D_l_draw.m D_l_draw.F.kp D_l_draw.b .nil .nil (dl_cons (de_v 1) (dl_cons de_int dl_nil)))) dl_nil))) (dl_cons de_str dl_nil)))))) dss_nil)
      (dss_cons (ds_if (dp_cmp (o_eq2 hu) (de_v 4) de_int (nomark _)) (dss_one (ds_set (i := 3) sc_law.nd rfl (.inl rfl) (de_cl (G_l_thing p) gd (hr.mono (by decide)) rfl D_l_thing.m D_l_thing.F.kp D_l_thing.b .nil .nil (dl_cons (de_v 1) (dl_cons de_int dl_nil))))) dss_nil)
      (dss_cons (ds_set (i := 5) sc_law.nd rfl (.inl rfl) (de_f1 (f_repr hbs gd hu) rfl T.repr (by decide +kernel) (de_v 3)))
      (dss_cons (ds_set (i := 6) sc_law.nd rfl (.inl rfl) (de_tup (dl_cons (de_cl (G_l_is_thing p) gd (hr.mono (by decide)) rfl D_l_is_thing.m D_l_is_thing.F.kp D_l_is_thing.b .nil .nil (dl_cons (de_v 3) (dl_cons de_int dl_nil))) (dl_cons (de_cl (G_l_letters p) gd (hr.mono (by decide)) rfl D_l_letters.m D_l_letters.F.kp D_l_letters.b .nil .nil (dl_cons (de_v 3) (dl_cons de_int dl_nil))) (dl_cons (de_cl (G_l_is_cell p) gd (hr.mono (by decide)) rfl D_l_is_cell.m D_l_is_cell.F.kp D_l_is_cell.b .nil .nil (dl_cons (de_v 3) dl_nil)) dl_nil)))))
      (dss_one (ds_for PassesOwn.never rfl (di_rng1 rfl T.range de_int) (gf_name 7) (pg_name (i := 7) sc_law.nd rfl (.inl rfl))
        (dss_cons (ds_set (i := 8) sc_law.nd rfl (.inl rfl) (de_tup (dl_cons (de_cl (G_is_thing p) gd (hr.mono (by decide)) rfl D_is_thing.m D_is_thing.F.kp D_is_thing.b .nil .nil (dl_cons (de_v 3) dl_nil)) (dl_cons (de_cl (G_is_name p) gd (hr.mono (by decide)) rfl D_is_name.m D_is_name.F.kp D_is_name.b .nil .nil (dl_cons (de_v 3) dl_nil)) (dl_cons (de_cl (G_is_cell p) gd (hr.mono (by decide)) rfl D_is_cell.m D_is_cell.F.kp D_is_cell.b .nil .nil (dl_cons (de_v 3) dl_nil)) dl_nil)))))
        (dss_one (ds_if (DW.dp (dw_or (dp_cmp (o_ne hu) (de_f1 (f_repr hbs gd hu) rfl T.repr (by decide +kernel) (de_v 8)) (de_f1 (f_repr hbs gd hu) rfl T.repr (by decide +kernel) (de_v 6)) (nomark _)) (dw_or1 (dp_cmp (o_ne hu) (de_f1 (f_repr hbs gd hu) rfl T.repr (by decide +kernel) (de_v 3)) (de_v 5) (nomark _))))) (dss_one (ds_ret de_bl)) dss_nil))))))))))))
    (dss_one (ds_ret de_bl))))), ?_⟩
  refine ⟨.ref a, rfl, a, ns, rfl, hl, fun p c cells H' _ _ hlen _ hp hc => ?_⟩
  show ∃ i, tS (PenW i) _ { nx := _, rt := Q } (some (.ref a) :: some (.ref p) :: List.replicate 7 none) H'
  refine pen_go hp hc hlen q ?_
  refine ⟨12, rfl, by decide, by decide, forW_inv (W := PenW p) (fun j ρ (t : Nat) => t ≤ 1700 * j ∧ ∃ a2 a3 a4 a5 a6 a7 a8, ρ = [none, some (.d (.ob p)), a2, a3, a4, a5, a6, a7, a8]) _ (i := 0) ⟨Nat.le_refl _, _, _, _, _, _, _, _, rfl⟩ ?_ ?_⟩
  · rintro j x ρ (t : Nat) hx ⟨ht, a2, a3, a4, a5, a6, a7, a8, rfl⟩
    obtain ⟨hj, rfl⟩ := rngD_at hx
    have hj12 : j < 12 := hj
    refine ⟨_, rfl, fun nx hn => ?_⟩
    refine ⟨_, rfl, 3, rfl, by decide, by omega, fun d1 t1 s1 h1 => ?_⟩
    refine ⟨_, rfl, 6, rfl, by decide, by decide, by omega, fun way w0 w6 => ?_⟩
    dsimp only
    refine cutI (W := PenW p) (fun ρ' (t' : Nat) => ∃ d, Sh 45 25000 22 d ∧ t' ≤ t + 62 ∧ ρ' = [none, some (.d (.ob p)), some (.d (.int (0 + (j : Int)))), some (.d d), some (.d (.int way)), a5, a6, a7, a8]) (fun nx' q' => ?_) ?_
    · refine ⟨_, rfl, _, eqi, _, rfl, ite_i (fun _ => ?_) fun _ => q' _ _ ⟨d1, s1.le (by decide) (by decide), by omega, rfl⟩⟩
      refine ⟨_, rfl, 0, rfl, by decide, by omega, fun d2 t2 s2 h2 => ?_⟩
      refine ⟨_, rfl, 4, rfl, by decide, by decide, by omega, fun k k0 k4 => ⟨_, rfl, _, _, rfl, by omega, by omega, (by show 3 ≤ sizeLine; decide), q' _ _ ⟨_, ?_, by show t2 + 1 ≤ t + 62; omega, rfl⟩⟩⟩
      refine Sh.tup (m := 3) (n := 2330) (k := 21) (fun x hx => ?_) (Nat.le_refl _) (by decide) (by decide) (by decide)
      simp only [List.mem_cons, List.not_mem_nil, or_false] at hx
      rcases hx with rfl | rfl | rfl
      · exact Sh.of (by decide +kernel)
      · exact (nest_sh s2 _).le (by omega) (by omega)
      · exact Sh.of (by decide +kernel)
    rintro _ (t3 : Nat) ⟨d3, s3, h3, rfl⟩
    refine cutI (W := PenW p) (fun ρ' (t' : Nat) => ∃ d, Sh 45 25000 22 d ∧ t' ≤ t + 1635 ∧ ρ' = [none, some (.d (.ob p)), some (.d (.int (0 + (j : Int)))), some (.d d), some (.d (.int way)), a5, a6, a7, a8]) (fun nx' q' => ?_) ?_
    · refine ⟨_, rfl, _, eqi, _, rfl, ite_i (fun _ => ?_) fun _ => q' _ _ ⟨d3, s3, by omega, rfl⟩⟩
      exact ⟨_, rfl, 4, rfl, by decide, by omega, fun d2 t2 s2 h2 => q' _ _ ⟨d2, s2.le (by decide) (by decide), by omega, rfl⟩⟩
    rintro _ (t4 : Nat) ⟨d, sd, h4, rfl⟩
    have rep : reprD d = some (.str d.py.shown) := sd.repr (by decide) (by decide) (by decide)
    refine ⟨_, rfl, _, rep, ?_⟩
    refine ⟨_, rfl, d, 12, rfl, sd.wf, by decide, _, rfl, d, 8, rfl, sd.wf, _, rfl, d, rfl, sd.wf, (by show 3 ≤ sizeLine; decide), ?_⟩
    have st : Sh 45 25000 22 (.tup [.bl (deepD d 12), .bl (wordD d 8), .bl (cellD d)]) := Sh.tup (m := 3) (n := 0) (k := 0) (fun x hx => by
      simp only [List.mem_cons, List.not_mem_nil, or_false] at hx
      rcases hx with rfl | rfl | rfl <;> exact Sh.bl) (Nat.le_refl _) (by decide) (by decide) (by decide)
    have rep2 := st.repr (by decide) (by decide) (by decide)
    refine ⟨2, rfl, by decide, by decide, forW_inv (W := PenW p) (fun i ρ (t' : Nat) => t' = t4 ∧ ∃ b7 b8, ρ = [none, some (.d (.ob p)), some (.d (.int (0 + (j : Int)))), some (.d d), some (.d (.int way)), some (.d (.str d.py.shown)), some (.d (.tup [.bl (deepD d 12), .bl (wordD d 8), .bl (cellD d)])), b7, b8]) _ (i := 0) ⟨rfl, _, _, rfl⟩ ?_ ?_⟩
    · rintro i x ρ (t' : Nat) hx ⟨rfl, b7, b8, rfl⟩
      refine ⟨_, rfl, fun nx2 hn2 => ?_⟩
      refine ⟨_, rfl, d, rfl, sd.wf, _, rfl, d, rfl, sd.wf, _, rfl, d, rfl, sd.wf, (by show 3 ≤ sizeLine; decide), ?_⟩
      refine ⟨_, rfl, _, rep2, _, rfl, _, rep2, _, nes_same, _, rfl, ite_i (fun h => absurd h (by decide)) fun _ => ?_⟩
      refine ⟨_, rfl, _, rep, _, rfl, _, nes_same, _, rfl, ite_i (fun h => absurd h (by decide)) fun _ => ?_⟩
      exact hn2 _ _ ⟨rfl, _, _, rfl⟩
    · rintro ρ (t' : Nat) ⟨rfl, b7, b8, rfl⟩
      exact hn _ _ ⟨by omega, _, _, _, _, _, _, _, rfl⟩
  · rintro ρ (t : Nat) ⟨_, a2, a3, a4, a5, a6, a7, a8, rfl⟩
    rfl

end
end Law

namespace Law
open PySem PySem.Spec PyProof.Rows L2 Tk
/-! ## what the top has written, and the law's own head -/
theorem all_mk {l : PySem.W.OpenLaw} {w : World} {K : PySem.W.Frag} {h : Heap} {mg : Str → Option Value} {fa : Addr} (X : K.In h) (G : h.Ns mainGlobals mg) (hfa : mg "law" = some (.ref fa))
    {f_law : Addr} {od_law an_law : Option Addr} {sl_law : Array (Option Value)} {oc_law kV_law dc_law pm_law cd_law ct_law : Value}
    {f_l_pen : Addr} {od_l_pen an_l_pen : Option Addr} {sl_l_pen : Array (Option Value)} {oc_l_pen kV_l_pen dc_l_pen pm_l_pen cd_l_pen ct_l_pen : Value}
    {f_l_draw : Addr} {od_l_draw an_l_draw : Option Addr} {sl_l_draw : Array (Option Value)} {oc_l_draw kV_l_draw dc_l_draw pm_l_draw cd_l_draw ct_l_draw : Value}
    {f_l_pick : Addr} {od_l_pick an_l_pick : Option Addr} {sl_l_pick : Array (Option Value)} {oc_l_pick kV_l_pick dc_l_pick pm_l_pick cd_l_pick ct_l_pick : Value}
    {f_l_cell : Addr} {od_l_cell an_l_cell : Option Addr} {sl_l_cell : Array (Option Value)} {oc_l_cell kV_l_cell dc_l_cell pm_l_cell cd_l_cell ct_l_cell : Value}
    {f_l_odd : Addr} {od_l_odd an_l_odd : Option Addr} {sl_l_odd : Array (Option Value)} {oc_l_odd kV_l_odd dc_l_odd pm_l_odd cd_l_odd ct_l_odd : Value}
    {f_l_nested : Addr} {od_l_nested an_l_nested : Option Addr} {sl_l_nested : Array (Option Value)} {oc_l_nested kV_l_nested dc_l_nested pm_l_nested cd_l_nested ct_l_nested : Value}
    {f_l_thing : Addr} {od_l_thing an_l_thing : Option Addr} {sl_l_thing : Array (Option Value)} {oc_l_thing kV_l_thing dc_l_thing pm_l_thing cd_l_thing ct_l_thing : Value}
    {f_l_whole : Addr} {od_l_whole an_l_whole : Option Addr} {sl_l_whole : Array (Option Value)} {oc_l_whole kV_l_whole dc_l_whole pm_l_whole cd_l_whole ct_l_whole : Value}
    {f_l_letters : Addr} {od_l_letters an_l_letters : Option Addr} {sl_l_letters : Array (Option Value)} {oc_l_letters kV_l_letters dc_l_letters pm_l_letters cd_l_letters ct_l_letters : Value}
    {f_l_is_cell : Addr} {od_l_is_cell an_l_is_cell : Option Addr} {sl_l_is_cell : Array (Option Value)} {oc_l_is_cell kV_l_is_cell dc_l_is_cell pm_l_is_cell cd_l_is_cell ct_l_is_cell : Value}
    {f_l_is_thing : Addr} {od_l_is_thing an_l_is_thing : Option Addr} {sl_l_is_thing : Array (Option Value)} {oc_l_is_thing kV_l_is_thing dc_l_is_thing pm_l_is_thing cd_l_is_thing ct_l_is_thing : Value}
    {f_is_whole : Addr} {od_is_whole an_is_whole : Option Addr} {sl_is_whole : Array (Option Value)} {oc_is_whole kV_is_whole dc_is_whole pm_is_whole cd_is_whole ct_is_whole : Value}
    {f_is_word : Addr} {od_is_word an_is_word : Option Addr} {sl_is_word : Array (Option Value)} {oc_is_word kV_is_word dc_is_word pm_is_word cd_is_word ct_is_word : Value}
    {f_is_name : Addr} {od_is_name an_is_name : Option Addr} {sl_is_name : Array (Option Value)} {oc_is_name kV_is_name dc_is_name pm_is_name cd_is_name ct_is_name : Value}
    {f_is_cell : Addr} {od_is_cell an_is_cell : Option Addr} {sl_is_cell : Array (Option Value)} {oc_is_cell kV_is_cell dc_is_cell pm_is_cell cd_is_cell ct_is_cell : Value}
    {f_is_deep_thing : Addr} {od_is_deep_thing an_is_deep_thing : Option Addr} {sl_is_deep_thing : Array (Option Value)} {oc_is_deep_thing kV_is_deep_thing dc_is_deep_thing pm_is_deep_thing cd_is_deep_thing ct_is_deep_thing : Value}
    {f_is_thing : Addr} {od_is_thing an_is_thing : Option Addr} {sl_is_thing : Array (Option Value)} {oc_is_thing kV_is_thing dc_is_thing pm_is_thing cd_is_thing ct_is_thing : Value}
    {f_is_number : Addr} {od_is_number an_is_number : Option Addr} {sl_is_number : Array (Option Value)} {oc_is_number kV_is_number dc_is_number pm_is_number cd_is_number ct_is_number : Value}
    {T_is_number : Addr} {ocT_is_number : Value} {odT_is_number : Option Addr} {slT_is_number : Array (Option Value)} {nT_is_number : Nat} {t_is_number_0 t_is_number_1 : Tok}
    {t_LETTERS : Tok}
    {t_MOST_LETTERS : Tok}
    {t_MOST_DEPTH : Tok}
    (a_law : PySem.W.nsIn K mainGlobals "law" = some (some (.ref f_law))) (l_law : K.lookup f_law = some ⟨oc_law, od_law, .func (PySem.W.fnOf "law" "law" (defArgs st_law) (defBody st_law) (defScope st_law) .none kV_law dc_law pm_law an_law cd_law ct_law), sl_law⟩) (c_law : PySem.W.codeIn K cd_law "law" = true) (k_law : PySem.W.keepIn K (.ref f_law) = true)
    (a_l_pen : PySem.W.nsIn K mainGlobals "_law_pen" = some (some (.ref f_l_pen))) (l_l_pen : K.lookup f_l_pen = some ⟨oc_l_pen, od_l_pen, .func (PySem.W.fnOf "_law_pen" "_law_pen" (defArgs st_l_pen) (defBody st_l_pen) (defScope st_l_pen) .none kV_l_pen dc_l_pen pm_l_pen an_l_pen cd_l_pen ct_l_pen), sl_l_pen⟩) (c_l_pen : PySem.W.codeIn K cd_l_pen "_law_pen" = true) (k_l_pen : PySem.W.keepIn K (.ref f_l_pen) = true)
    (a_l_draw : PySem.W.nsIn K mainGlobals "_law_draw" = some (some (.ref f_l_draw))) (l_l_draw : K.lookup f_l_draw = some ⟨oc_l_draw, od_l_draw, .func (PySem.W.fnOf "_law_draw" "_law_draw" (defArgs st_l_draw) (defBody st_l_draw) (defScope st_l_draw) .none kV_l_draw dc_l_draw pm_l_draw an_l_draw cd_l_draw ct_l_draw), sl_l_draw⟩) (c_l_draw : PySem.W.codeIn K cd_l_draw "_law_draw" = true) (k_l_draw : PySem.W.keepIn K (.ref f_l_draw) = true)
    (a_l_pick : PySem.W.nsIn K mainGlobals "_law_pick" = some (some (.ref f_l_pick))) (l_l_pick : K.lookup f_l_pick = some ⟨oc_l_pick, od_l_pick, .func (PySem.W.fnOf "_law_pick" "_law_pick" (defArgs st_l_pick) (defBody st_l_pick) (defScope st_l_pick) .none kV_l_pick dc_l_pick pm_l_pick an_l_pick cd_l_pick ct_l_pick), sl_l_pick⟩) (c_l_pick : PySem.W.codeIn K cd_l_pick "_law_pick" = true) (k_l_pick : PySem.W.keepIn K (.ref f_l_pick) = true)
    (a_l_cell : PySem.W.nsIn K mainGlobals "_law_cell" = some (some (.ref f_l_cell))) (l_l_cell : K.lookup f_l_cell = some ⟨oc_l_cell, od_l_cell, .func (PySem.W.fnOf "_law_cell" "_law_cell" (defArgs st_l_cell) (defBody st_l_cell) (defScope st_l_cell) .none kV_l_cell dc_l_cell pm_l_cell an_l_cell cd_l_cell ct_l_cell), sl_l_cell⟩) (c_l_cell : PySem.W.codeIn K cd_l_cell "_law_cell" = true) (k_l_cell : PySem.W.keepIn K (.ref f_l_cell) = true)
    (a_l_odd : PySem.W.nsIn K mainGlobals "_law_odd" = some (some (.ref f_l_odd))) (l_l_odd : K.lookup f_l_odd = some ⟨oc_l_odd, od_l_odd, .func (PySem.W.fnOf "_law_odd" "_law_odd" (defArgs st_l_odd) (defBody st_l_odd) (defScope st_l_odd) .none kV_l_odd dc_l_odd pm_l_odd an_l_odd cd_l_odd ct_l_odd), sl_l_odd⟩) (c_l_odd : PySem.W.codeIn K cd_l_odd "_law_odd" = true) (k_l_odd : PySem.W.keepIn K (.ref f_l_odd) = true)
    (a_l_nested : PySem.W.nsIn K mainGlobals "_law_nested" = some (some (.ref f_l_nested))) (l_l_nested : K.lookup f_l_nested = some ⟨oc_l_nested, od_l_nested, .func (PySem.W.fnOf "_law_nested" "_law_nested" (defArgs st_l_nested) (defBody st_l_nested) (defScope st_l_nested) .none kV_l_nested dc_l_nested pm_l_nested an_l_nested cd_l_nested ct_l_nested), sl_l_nested⟩) (c_l_nested : PySem.W.codeIn K cd_l_nested "_law_nested" = true) (k_l_nested : PySem.W.keepIn K (.ref f_l_nested) = true)
    (a_l_thing : PySem.W.nsIn K mainGlobals "_law_thing" = some (some (.ref f_l_thing))) (l_l_thing : K.lookup f_l_thing = some ⟨oc_l_thing, od_l_thing, .func (PySem.W.fnOf "_law_thing" "_law_thing" (defArgs st_l_thing) (defBody st_l_thing) (defScope st_l_thing) .none kV_l_thing dc_l_thing pm_l_thing an_l_thing cd_l_thing ct_l_thing), sl_l_thing⟩) (c_l_thing : PySem.W.codeIn K cd_l_thing "_law_thing" = true) (k_l_thing : PySem.W.keepIn K (.ref f_l_thing) = true)
    (a_l_whole : PySem.W.nsIn K mainGlobals "_law_whole" = some (some (.ref f_l_whole))) (l_l_whole : K.lookup f_l_whole = some ⟨oc_l_whole, od_l_whole, .func (PySem.W.fnOf "_law_whole" "_law_whole" (defArgs st_l_whole) (defBody st_l_whole) (defScope st_l_whole) .none kV_l_whole dc_l_whole pm_l_whole an_l_whole cd_l_whole ct_l_whole), sl_l_whole⟩) (c_l_whole : PySem.W.codeIn K cd_l_whole "_law_whole" = true) (k_l_whole : PySem.W.keepIn K (.ref f_l_whole) = true)
    (a_l_letters : PySem.W.nsIn K mainGlobals "_law_letters" = some (some (.ref f_l_letters))) (l_l_letters : K.lookup f_l_letters = some ⟨oc_l_letters, od_l_letters, .func (PySem.W.fnOf "_law_letters" "_law_letters" (defArgs st_l_letters) (defBody st_l_letters) (defScope st_l_letters) .none kV_l_letters dc_l_letters pm_l_letters an_l_letters cd_l_letters ct_l_letters), sl_l_letters⟩) (c_l_letters : PySem.W.codeIn K cd_l_letters "_law_letters" = true) (k_l_letters : PySem.W.keepIn K (.ref f_l_letters) = true)
    (a_l_is_cell : PySem.W.nsIn K mainGlobals "_law_is_cell" = some (some (.ref f_l_is_cell))) (l_l_is_cell : K.lookup f_l_is_cell = some ⟨oc_l_is_cell, od_l_is_cell, .func (PySem.W.fnOf "_law_is_cell" "_law_is_cell" (defArgs st_l_is_cell) (defBody st_l_is_cell) (defScope st_l_is_cell) .none kV_l_is_cell dc_l_is_cell pm_l_is_cell an_l_is_cell cd_l_is_cell ct_l_is_cell), sl_l_is_cell⟩) (c_l_is_cell : PySem.W.codeIn K cd_l_is_cell "_law_is_cell" = true) (k_l_is_cell : PySem.W.keepIn K (.ref f_l_is_cell) = true)
    (a_l_is_thing : PySem.W.nsIn K mainGlobals "_law_is_thing" = some (some (.ref f_l_is_thing))) (l_l_is_thing : K.lookup f_l_is_thing = some ⟨oc_l_is_thing, od_l_is_thing, .func (PySem.W.fnOf "_law_is_thing" "_law_is_thing" (defArgs st_l_is_thing) (defBody st_l_is_thing) (defScope st_l_is_thing) .none kV_l_is_thing dc_l_is_thing pm_l_is_thing an_l_is_thing cd_l_is_thing ct_l_is_thing), sl_l_is_thing⟩) (c_l_is_thing : PySem.W.codeIn K cd_l_is_thing "_law_is_thing" = true) (k_l_is_thing : PySem.W.keepIn K (.ref f_l_is_thing) = true)
    (a_is_whole : PySem.W.nsIn K mainGlobals "is_whole" = some (some (.ref f_is_whole))) (l_is_whole : K.lookup f_is_whole = some ⟨oc_is_whole, od_is_whole, .func (PySem.W.fnOf "is_whole" "is_whole" (defArgs st_is_whole) (defBody st_is_whole) (defScope st_is_whole) .none kV_is_whole dc_is_whole pm_is_whole an_is_whole cd_is_whole ct_is_whole), sl_is_whole⟩) (c_is_whole : PySem.W.codeIn K cd_is_whole "is_whole" = true) (k_is_whole : PySem.W.keepIn K (.ref f_is_whole) = true)
    (a_is_word : PySem.W.nsIn K mainGlobals "is_word" = some (some (.ref f_is_word))) (l_is_word : K.lookup f_is_word = some ⟨oc_is_word, od_is_word, .func (PySem.W.fnOf "is_word" "is_word" (defArgs st_is_word) (defBody st_is_word) (defScope st_is_word) .none kV_is_word dc_is_word pm_is_word an_is_word cd_is_word ct_is_word), sl_is_word⟩) (c_is_word : PySem.W.codeIn K cd_is_word "is_word" = true) (k_is_word : PySem.W.keepIn K (.ref f_is_word) = true)
    (a_is_name : PySem.W.nsIn K mainGlobals "is_name" = some (some (.ref f_is_name))) (l_is_name : K.lookup f_is_name = some ⟨oc_is_name, od_is_name, .func (PySem.W.fnOf "is_name" "is_name" (defArgs st_is_name) (defBody st_is_name) (defScope st_is_name) .none kV_is_name dc_is_name pm_is_name an_is_name cd_is_name ct_is_name), sl_is_name⟩) (c_is_name : PySem.W.codeIn K cd_is_name "is_name" = true) (k_is_name : PySem.W.keepIn K (.ref f_is_name) = true)
    (a_is_cell : PySem.W.nsIn K mainGlobals "is_cell" = some (some (.ref f_is_cell))) (l_is_cell : K.lookup f_is_cell = some ⟨oc_is_cell, od_is_cell, .func (PySem.W.fnOf "is_cell" "is_cell" (defArgs st_is_cell) (defBody st_is_cell) (defScope st_is_cell) .none kV_is_cell dc_is_cell pm_is_cell an_is_cell cd_is_cell ct_is_cell), sl_is_cell⟩) (c_is_cell : PySem.W.codeIn K cd_is_cell "is_cell" = true) (k_is_cell : PySem.W.keepIn K (.ref f_is_cell) = true)
    (a_is_deep_thing : PySem.W.nsIn K mainGlobals "is_deep_thing" = some (some (.ref f_is_deep_thing))) (l_is_deep_thing : K.lookup f_is_deep_thing = some ⟨oc_is_deep_thing, od_is_deep_thing, .func (PySem.W.fnOf "is_deep_thing" "is_deep_thing" (defArgs st_is_deep_thing) (defBody st_is_deep_thing) (defScope st_is_deep_thing) .none kV_is_deep_thing dc_is_deep_thing pm_is_deep_thing an_is_deep_thing cd_is_deep_thing ct_is_deep_thing), sl_is_deep_thing⟩) (c_is_deep_thing : PySem.W.codeIn K cd_is_deep_thing "is_deep_thing" = true) (k_is_deep_thing : PySem.W.keepIn K (.ref f_is_deep_thing) = true)
    (a_is_thing : PySem.W.nsIn K mainGlobals "is_thing" = some (some (.ref f_is_thing))) (l_is_thing : K.lookup f_is_thing = some ⟨oc_is_thing, od_is_thing, .func (PySem.W.fnOf "is_thing" "is_thing" (defArgs st_is_thing) (defBody st_is_thing) (defScope st_is_thing) .none kV_is_thing dc_is_thing pm_is_thing an_is_thing cd_is_thing ct_is_thing), sl_is_thing⟩) (c_is_thing : PySem.W.codeIn K cd_is_thing "is_thing" = true) (k_is_thing : PySem.W.keepIn K (.ref f_is_thing) = true)
    (a_is_number : PySem.W.nsIn K mainGlobals "is_number" = some (some (.ref f_is_number))) (l_is_number : K.lookup f_is_number = some ⟨oc_is_number, od_is_number, .func (PySem.W.fnOf "is_number" "is_number" (defArgs st_is_number) (defBody st_is_number) (defScope st_is_number) (.ref T_is_number) kV_is_number dc_is_number pm_is_number an_is_number cd_is_number ct_is_number), sl_is_number⟩) (c_is_number : PySem.W.codeIn K cd_is_number "is_number" = true) (k_is_number : PySem.W.keepIn K (.ref f_is_number) = true) (lT_is_number : K.lookup T_is_number = some ⟨ocT_is_number, odT_is_number, .seq #[.int (-999999999999999) t_is_number_0, .int 999999999999999 t_is_number_1] nT_is_number, slT_is_number⟩)
    (z_abs : PySem.W.nsIn K mainGlobals "abs" = some none)
    (z_all : PySem.W.nsIn K mainGlobals "all" = some none)
    (z_bool : PySem.W.nsIn K mainGlobals "bool" = some none)
    (z_int : PySem.W.nsIn K mainGlobals "int" = some none)
    (z_isinstance : PySem.W.nsIn K mainGlobals "isinstance" = some none)
    (z_len : PySem.W.nsIn K mainGlobals "len" = some none)
    (z_list : PySem.W.nsIn K mainGlobals "list" = some none)
    (z_range : PySem.W.nsIn K mainGlobals "range" = some none)
    (z_repr : PySem.W.nsIn K mainGlobals "repr" = some none)
    (z_str : PySem.W.nsIn K mainGlobals "str" = some none)
    (z_tuple : PySem.W.nsIn K mainGlobals "tuple" = some none)
    (q_LETTERS : PySem.W.nsIn K mainGlobals "LETTERS" = some (some (.str "abcdefghijklmnopqrstuvwxyz" t_LETTERS)))
    (q_MOST_LETTERS : PySem.W.nsIn K mainGlobals "MOST_LETTERS" = some (some (.int 12 t_MOST_LETTERS)))
    (q_MOST_DEPTH : PySem.W.nsIn K mainGlobals "MOST_DEPTH" = some (some (.int 12 t_MOST_DEPTH))) :
    ∃ fd : FuncData, (∀ (s : Shared) (v : Value), BindsTo s fd ⟨[v], []⟩ [("_law_script", v)]) ∧ ∀ base : Heap, K.In base → base.Ns mainGlobals mg → BaseS base → FnG l.prog w K mg base CX0 18 fa fd ["_law_script"] (lawSp K) := by
  have e := hfa.symm.trans (PySem.W.mg_of X G a_law)
  have e2 : f_law = fa := (Value.ref.inj (Option.some.inj e)).symm
  subst e2
  have T : Tb mg := ⟨PySem.W.mg_none_of X G z_abs, PySem.W.mg_none_of X G z_all, PySem.W.mg_none_of X G z_bool, PySem.W.mg_none_of X G z_int, PySem.W.mg_none_of X G z_isinstance, PySem.W.mg_none_of X G z_len, PySem.W.mg_none_of X G z_list, PySem.W.mg_none_of X G z_range, PySem.W.mg_none_of X G z_repr, PySem.W.mg_none_of X G z_str, PySem.W.mg_none_of X G z_tuple, ⟨_, PySem.W.mg_of X G q_LETTERS⟩, ⟨_, PySem.W.mg_of X G q_MOST_LETTERS⟩, ⟨_, PySem.W.mg_of X G q_MOST_DEPTH⟩⟩
  have F_law := fun_mk (st := st_law) l_law c_law k_law
  have D_law : Df K mg "law" st_law ["_law_script"] f_law _ := ⟨F_law, PySem.W.mg_of X G a_law, F_law.binds (ps := ["_law_script"]) fun _ _ _ _ _ _ us hl => match us, hl with | [_], _ => rfl⟩
  have F_l_pen := fun_mk (st := st_l_pen) l_l_pen c_l_pen k_l_pen
  have D_l_pen : Df K mg "_law_pen" st_l_pen ["_law_script"] f_l_pen _ := ⟨F_l_pen, PySem.W.mg_of X G a_l_pen, F_l_pen.binds (ps := ["_law_script"]) fun _ _ _ _ _ _ us hl => match us, hl with | [_], _ => rfl⟩
  have F_l_draw := fun_mk (st := st_l_draw) l_l_draw c_l_draw k_l_draw
  have D_l_draw : Df K mg "_law_draw" st_l_draw ["_law_pen_here", "_law_many"] f_l_draw _ := ⟨F_l_draw, PySem.W.mg_of X G a_l_draw, F_l_draw.binds (ps := ["_law_pen_here", "_law_many"]) fun _ _ _ _ _ _ us hl => match us, hl with | [_, _], _ => rfl⟩
  have F_l_pick := fun_mk (st := st_l_pick) l_l_pick c_l_pick k_l_pick
  have D_l_pick : Df K mg "_law_pick" st_l_pick ["_law_pen_here", "_law_some"] f_l_pick _ := ⟨F_l_pick, PySem.W.mg_of X G a_l_pick, F_l_pick.binds (ps := ["_law_pen_here", "_law_some"]) fun _ _ _ _ _ _ us hl => match us, hl with | [_, _], _ => rfl⟩
  have F_l_cell := fun_mk (st := st_l_cell) l_l_cell c_l_cell k_l_cell
  have D_l_cell : Df K mg "_law_cell" st_l_cell ["_law_pen_here"] f_l_cell _ := ⟨F_l_cell, PySem.W.mg_of X G a_l_cell, F_l_cell.binds (ps := ["_law_pen_here"]) fun _ _ _ _ _ _ us hl => match us, hl with | [_], _ => rfl⟩
  have F_l_odd := fun_mk (st := st_l_odd) l_l_odd c_l_odd k_l_odd
  have D_l_odd : Df K mg "_law_odd" st_l_odd ["_law_pen_here", "_law_deep"] f_l_odd _ := ⟨F_l_odd, PySem.W.mg_of X G a_l_odd, F_l_odd.binds (ps := ["_law_pen_here", "_law_deep"]) fun _ _ _ _ _ _ us hl => match us, hl with | [_, _], _ => rfl⟩
  have F_l_nested := fun_mk (st := st_l_nested) l_l_nested c_l_nested k_l_nested
  have D_l_nested : Df K mg "_law_nested" st_l_nested ["_law_thing_here", "_law_deep"] f_l_nested _ := ⟨F_l_nested, PySem.W.mg_of X G a_l_nested, F_l_nested.binds (ps := ["_law_thing_here", "_law_deep"]) fun _ _ _ _ _ _ us hl => match us, hl with | [_, _], _ => rfl⟩
  have F_l_thing := fun_mk (st := st_l_thing) l_l_thing c_l_thing k_l_thing
  have D_l_thing : Df K mg "_law_thing" st_l_thing ["_law_pen_here", "_law_deep"] f_l_thing _ := ⟨F_l_thing, PySem.W.mg_of X G a_l_thing, F_l_thing.binds (ps := ["_law_pen_here", "_law_deep"]) fun _ _ _ _ _ _ us hl => match us, hl with | [_, _], _ => rfl⟩
  have F_l_whole := fun_mk (st := st_l_whole) l_l_whole c_l_whole k_l_whole
  have D_l_whole : Df K mg "_law_whole" st_l_whole ["_law_thing_here", "_law_low", "_law_high"] f_l_whole _ := ⟨F_l_whole, PySem.W.mg_of X G a_l_whole, F_l_whole.binds (ps := ["_law_thing_here", "_law_low", "_law_high"]) fun _ _ _ _ _ _ us hl => match us, hl with | [_, _, _], _ => rfl⟩
  have F_l_letters := fun_mk (st := st_l_letters) l_l_letters c_l_letters k_l_letters
  have D_l_letters : Df K mg "_law_letters" st_l_letters ["_law_thing_here", "_law_most"] f_l_letters _ := ⟨F_l_letters, PySem.W.mg_of X G a_l_letters, F_l_letters.binds (ps := ["_law_thing_here", "_law_most"]) fun _ _ _ _ _ _ us hl => match us, hl with | [_, _], _ => rfl⟩
  have F_l_is_cell := fun_mk (st := st_l_is_cell) l_l_is_cell c_l_is_cell k_l_is_cell
  have D_l_is_cell : Df K mg "_law_is_cell" st_l_is_cell ["_law_thing_here"] f_l_is_cell _ := ⟨F_l_is_cell, PySem.W.mg_of X G a_l_is_cell, F_l_is_cell.binds (ps := ["_law_thing_here"]) fun _ _ _ _ _ _ us hl => match us, hl with | [_], _ => rfl⟩
  have F_l_is_thing := fun_mk (st := st_l_is_thing) l_l_is_thing c_l_is_thing k_l_is_thing
  have D_l_is_thing : Df K mg "_law_is_thing" st_l_is_thing ["_law_thing_here", "_law_deep"] f_l_is_thing _ := ⟨F_l_is_thing, PySem.W.mg_of X G a_l_is_thing, F_l_is_thing.binds (ps := ["_law_thing_here", "_law_deep"]) fun _ _ _ _ _ _ us hl => match us, hl with | [_, _], _ => rfl⟩
  have F_is_whole := fun_mk (st := st_is_whole) l_is_whole c_is_whole k_is_whole
  have D_is_whole : Df K mg "is_whole" st_is_whole ["thing"] f_is_whole _ := ⟨F_is_whole, PySem.W.mg_of X G a_is_whole, F_is_whole.binds (ps := ["thing"]) fun _ _ _ _ _ _ us hl => match us, hl with | [_], _ => rfl⟩
  have F_is_word := fun_mk (st := st_is_word) l_is_word c_is_word k_is_word
  have D_is_word : Df K mg "is_word" st_is_word ["thing", "most"] f_is_word _ := ⟨F_is_word, PySem.W.mg_of X G a_is_word, F_is_word.binds (ps := ["thing", "most"]) fun _ _ _ _ _ _ us hl => match us, hl with | [_, _], _ => rfl⟩
  have F_is_name := fun_mk (st := st_is_name) l_is_name c_is_name k_is_name
  have D_is_name : Df K mg "is_name" st_is_name ["thing"] f_is_name _ := ⟨F_is_name, PySem.W.mg_of X G a_is_name, F_is_name.binds (ps := ["thing"]) fun _ _ _ _ _ _ us hl => match us, hl with | [_], _ => rfl⟩
  have F_is_cell := fun_mk (st := st_is_cell) l_is_cell c_is_cell k_is_cell
  have D_is_cell : Df K mg "is_cell" st_is_cell ["thing"] f_is_cell _ := ⟨F_is_cell, PySem.W.mg_of X G a_is_cell, F_is_cell.binds (ps := ["thing"]) fun _ _ _ _ _ _ us hl => match us, hl with | [_], _ => rfl⟩
  have F_is_deep_thing := fun_mk (st := st_is_deep_thing) l_is_deep_thing c_is_deep_thing k_is_deep_thing
  have D_is_deep_thing : Df K mg "is_deep_thing" st_is_deep_thing ["thing", "deep"] f_is_deep_thing _ := ⟨F_is_deep_thing, PySem.W.mg_of X G a_is_deep_thing, F_is_deep_thing.binds (ps := ["thing", "deep"]) fun _ _ _ _ _ _ us hl => match us, hl with | [_, _], _ => rfl⟩
  have F_is_thing := fun_mk (st := st_is_thing) l_is_thing c_is_thing k_is_thing
  have D_is_thing : Df K mg "is_thing" st_is_thing ["thing"] f_is_thing _ := ⟨F_is_thing, PySem.W.mg_of X G a_is_thing, F_is_thing.binds (ps := ["thing"]) fun _ _ _ _ _ _ us hl => match us, hl with | [_], _ => rfl⟩
  have F_is_number : FunD K "is_number" "is_number" (defArgs st_is_number) (defBody st_is_number) (defScope st_is_number) [V.int (-999999999999999), V.int 999999999999999] [] f_is_number _ := ⟨⟨_, _, _, _, _, _, _, _, _, _, rfl, l_is_number, c_is_number, .inr ⟨(fun z => by cases z), T_is_number, _, _, _, rfl, lT_is_number, rfl, (.cons ⟨_, rfl⟩ (.cons ⟨_, rfl⟩ .nil))⟩, .inl rfl⟩, k_is_number⟩
  have D_is_number : DfD K mg "is_number" st_is_number ["thing", "low", "high"] [V.int (-999999999999999), V.int 999999999999999] f_is_number _ := ⟨F_is_number, PySem.W.mg_of X G a_is_number, F_is_number.binds1 1 0 (fun z => by cases z) rfl (fun _ _ _ _ _ _ _ us its hl hi => match us, its, hl, hi with | [u0], [i0, i1], _, _ => ⟨_, rfl, rfl⟩)⟩
  exact ⟨_, fun s v => .of_eq rfl, fun base _ _ hbs => ok_law D_law D_l_pen D_l_draw D_l_pick D_l_cell D_l_odd D_l_nested D_l_thing D_l_whole D_l_letters D_l_is_cell D_l_is_thing D_is_whole D_is_word D_is_name D_is_cell D_is_deep_thing D_is_thing D_is_number T hbs⟩
end Law
open PySem PySem.W PyProof.Rows
set_option maxRecDepth 100000 in
set_option maxHeartbeats 0 in
theorem PySem.Challenge.cw_tablekin_k01_things_or_not_holds : PySem.Challenge.rw_tablekin_k01_things_or_not.Holds := by
  w_on; o_law; k_head; (case hw => w_witness2)
  k_fill
  refine Tk.walkG (l := PySem.Challenge.rw_tablekin_k01_things_or_not) (k := 18) (sp := fun K => Tk.lawSp K) (x := "_law_script") rfl (by decide) rfl ⟨rfl, by decide, by decide⟩ rfl (fun w h Y => PySem.W.kIn_of Y) ?F (fun K H a ns hl hO hS => Tk.lawSp_of K H a ns hl hO hS)
  case F =>
    intro w mg fa h KX G hmg
    refine' Law.all_mk KX G hmg ?a_law ?l_law ?c_law ?k_law ?a_l_pen ?l_l_pen ?c_l_pen ?k_l_pen ?a_l_draw ?l_l_draw ?c_l_draw ?k_l_draw ?a_l_pick ?l_l_pick ?c_l_pick ?k_l_pick ?a_l_cell ?l_l_cell ?c_l_cell ?k_l_cell ?a_l_odd ?l_l_odd ?c_l_odd ?k_l_odd ?a_l_nested ?l_l_nested ?c_l_nested ?k_l_nested ?a_l_thing ?l_l_thing ?c_l_thing ?k_l_thing ?a_l_whole ?l_l_whole ?c_l_whole ?k_l_whole ?a_l_letters ?l_l_letters ?c_l_letters ?k_l_letters ?a_l_is_cell ?l_l_is_cell ?c_l_is_cell ?k_l_is_cell ?a_l_is_thing ?l_l_is_thing ?c_l_is_thing ?k_l_is_thing ?a_is_whole ?l_is_whole ?c_is_whole ?k_is_whole ?a_is_word ?l_is_word ?c_is_word ?k_is_word ?a_is_name ?l_is_name ?c_is_name ?k_is_name ?a_is_cell ?l_is_cell ?c_is_cell ?k_is_cell ?a_is_deep_thing ?l_is_deep_thing ?c_is_deep_thing ?k_is_deep_thing ?a_is_thing ?l_is_thing ?c_is_thing ?k_is_thing ?a_is_number ?l_is_number ?c_is_number ?k_is_number ?lT_is_number ?z_abs ?z_all ?z_bool ?z_int ?z_isinstance ?z_len ?z_list ?z_range ?z_repr ?z_str ?z_tuple ?q_LETTERS ?q_MOST_LETTERS ?q_MOST_DEPTH
    (case a_law => k_is); (case l_law => k_is); (case c_law => k_is); (case k_law => k_is); (case a_l_pen => k_is); (case l_l_pen => k_is)
    (case c_l_pen => k_is); (case k_l_pen => k_is); (case a_l_draw => k_is); (case l_l_draw => k_is); (case c_l_draw => k_is); (case k_l_draw => k_is)
    (case a_l_pick => k_is); (case l_l_pick => k_is); (case c_l_pick => k_is); (case k_l_pick => k_is); (case a_l_cell => k_is); (case l_l_cell => k_is)
    (case c_l_cell => k_is); (case k_l_cell => k_is); (case a_l_odd => k_is); (case l_l_odd => k_is); (case c_l_odd => k_is); (case k_l_odd => k_is)
    (case a_l_nested => k_is); (case l_l_nested => k_is); (case c_l_nested => k_is); (case k_l_nested => k_is); (case a_l_thing => k_is); (case l_l_thing => k_is)
    (case c_l_thing => k_is); (case k_l_thing => k_is); (case a_l_whole => k_is); (case l_l_whole => k_is); (case c_l_whole => k_is); (case k_l_whole => k_is)
    (case a_l_letters => k_is); (case l_l_letters => k_is); (case c_l_letters => k_is); (case k_l_letters => k_is); (case a_l_is_cell => k_is); (case l_l_is_cell => k_is)
    (case c_l_is_cell => k_is); (case k_l_is_cell => k_is); (case a_l_is_thing => k_is); (case l_l_is_thing => k_is); (case c_l_is_thing => k_is); (case k_l_is_thing => k_is)
    (case a_is_whole => k_is); (case l_is_whole => k_is); (case c_is_whole => k_is); (case k_is_whole => k_is); (case a_is_word => k_is); (case l_is_word => k_is)
    (case c_is_word => k_is); (case k_is_word => k_is); (case a_is_name => k_is); (case l_is_name => k_is); (case c_is_name => k_is); (case k_is_name => k_is)
    (case a_is_cell => k_is); (case l_is_cell => k_is); (case c_is_cell => k_is); (case k_is_cell => k_is); (case a_is_deep_thing => k_is); (case l_is_deep_thing => k_is)
    (case c_is_deep_thing => k_is); (case k_is_deep_thing => k_is); (case a_is_thing => k_is); (case l_is_thing => k_is); (case c_is_thing => k_is); (case k_is_thing => k_is)
    (case a_is_number => k_is); (case l_is_number => k_is); (case c_is_number => k_is); (case k_is_number => k_is); (case lT_is_number => k_is); (case z_abs => k_is)
    (case z_all => k_is); (case z_bool => k_is); (case z_int => k_is); (case z_isinstance => k_is); (case z_len => k_is); (case z_list => k_is)
    (case z_range => k_is); (case z_repr => k_is); (case z_str => k_is); (case z_tuple => k_is); (case q_LETTERS => k_is); (case q_MOST_LETTERS => k_is)
    (case q_MOST_DEPTH => k_is)
#print axioms PySem.Challenge.cw_tablekin_k01_things_or_not_holds

