import PyProof.Rows.All
import Wide.All
import OpenK.AllK
import Wide.FinOn
import HandS.ForMost
import HandS.Exc
import HandS.ExcOwn
import HandS.WordsExc
import HandS.EndBits
import HandS.Lambda
import HandS.IsInst
import HandS.ExcInit
import HandS.ExcField
import KE.KExcIs
import HandS.Wide
import HandS.TupAny
import HandS.Style
import HandS.Gcd
import HandS.EndTab
import PyProof.P3Eq
import HandS.Iter
import HandS.Zip
import KE.GoesMore
import HandS.Codes
import PySem.Challenge.RW_genuspapers_k11_whole_marks_and_sums
set_option Elab.async false
set_option linter.all false
set_option maxRecDepth 100000
set_option maxHeartbeats 4000000
/-! GBase: defs whose promise knows more of what runs around them: no repr is open (guards), objects that are pinned (a caught error). -/
namespace G
open PySem PySem.Spec PyProof.Rows L2
abbrev Pins := List (Addr × Obj)
abbrev Sq := Pins → Sp
/-- room around: c tells that nothing is being handled -/
structure Rm (c : Bool) (k : Nat) (A : Around) : Prop where
  dp : A.depth + 3 * k + 5 < recursionLimit
  un : A.units + 16 * k + 200 < cLine
  gd : A.guards = some []
  hd : c = true → A.handled = none
theorem Rm.mono {c : Bool} {j k : Nat} {A : Around} (r : Rm c k A) (h : j ≤ k) : Rm c j A :=
  { dp := by have q := r.dp; omega, un := by have q := r.un; omega, gd := r.gd, hd := r.hd }
theorem Rm.any {c : Bool} {k : Nat} {A : Around} (r : Rm c k A) : Rm false k A := { dp := r.dp, un := r.un, gd := r.gd, hd := fun z => nomatch z }
theorem Rm.deeper {c : Bool} {k : Nat} {A : Around} (r : Rm c (k + 1) A) (env : Env) : Rm c k (A.deeper env) :=
  { dp := by have q := r.dp; show A.depth + 1 + 3 * k + 5 < _; omega, un := by have q := r.un; show A.units + 3 + 16 * k + 200 < _; omega, gd := r.gd, hd := r.hd }
theorem Rm.mark {c : Bool} {k : Nat} {A : Around} (r : Rm c k A) (h : Option Value) : Rm false k (A.mark h) :=
  { dp := r.dp, un := r.un, gd := r.gd, hd := fun z => nomatch z }
theorem Rm.room {k : Nat} {A : Around} (r : Rm true k A) : Room k A := { hd := r.hd rfl, dp := r.dp, un := r.un }
theorem Rm.hu {c : Bool} {k : Nat} {A : Around} (r : Rm c k A) : A.units + 64 < cLine := by have q := r.un; omega
theorem Rm.hu1 {c : Bool} {k : Nat} {A : Around} (r : Rm c k A) : A.units + 1 < cLine := by have q := r.un; omega
theorem Rm.deep {c : Bool} {k : Nat} {A : Around} (r : Rm c k A) : A.depth < recursionLimit := by have q := r.dp; omega

/-- a pinned object stands in the state, untracked -/
structure PinAt (outer : List Env) (H : Hp) (s : Shared) (p : Addr × Obj) : Prop where
  get : s.heap.get? p.1 = some p.2
  free : H p.1 = none
  nofs : p.1 ∉ frs outer
  nocell : ∀ v, p.2.data ≠ .cell v

structure FnG (P : Program) (w : World) (K : PySem.W.Frag) (mg : Str → Option Value) (base : Heap) (c : Bool) (k : Nat) (f : Addr) (fd : FuncData) (ps : List Str) (sp : Sq) : Prop where
  len : ∀ pl vs H Q E, sp pl vs H Q E → vs.length = ps.length
  run : ∀ (A : Around) (outer : List Env) (s : Shared) (H : Hp) (args : Args) (us : List Value) (vs : List V) (Q : VK) (E : XK) (pl : Pins), Rm c k A → (∀ p ∈ pl, PinAt outer H s p) →
    Env0 P w K mg base A outer s H → BindsTo s fd args (ps.zip us) → Vals vs us → sp pl vs H Q E →
    codeAny (model P w) A (.call (.ref f) args) (CR (L2.CX P w) outer P w H s Q E) s
theorem FnG.up {P : Program} {w : World} {K : PySem.W.Frag} {mg : Str → Option Value} {base : Heap} {c : Bool} {j k : Nat} {f : Addr} {fd : FuncData} {ps : List Str} {sp : Sq} (F : FnG P w K mg base c j f fd ps sp) (h : j ≤ k) : FnG P w K mg base c k f fd ps sp :=
  { len := F.len, run := fun A o s H a us vs Q E pl hr => F.run A o s H a us vs Q E pl (hr.mono h) }
theorem FnG.of {P : Program} {w : World} {K : PySem.W.Frag} {mg : Str → Option Value} {base : Heap} {k : Nat} {f : Addr} {fd : FuncData} {ps : List Str} {sp : Sp} (F : FnOk P w K mg base (L2.CX P w) k f fd ps sp) : FnG P w K mg base true k f fd ps (fun _ => sp) :=
  { len := fun _ => F.len, run := fun A o s H a us vs Q E _ hr _ => F.run A o s H a us vs Q E hr.room }

/-- the context of a body -/
abbrev cxG (P : Program) (w : World) (K : PySem.W.Frag) (mg : Str → Option Value) (base : Heap) (N : List Str) (qual : Str) (scope : Scope) (f : Addr) (cd : Value) (A : Around) (outer : List Env) (s : Shared) (H : Hp) (E : XK) (c : Bool) (pl : Pins) : Cx :=
  { cxOf (L2.CX P w) P w K mg base N qual scope f cd A outer s H E with calm := c, pn := pl }

section
variable {P : Program} {w : World} {K : PySem.W.Frag} {mg : Str → Option Value} {base : Heap} {N ps : List Str} {qual : Str} {scope : Scope} {f : Addr} {cd : Value} {A : Around} {outer : List Env} {s s1 : Shared} {H : Hp} {E : XK} {us : List Value} {vs : List V} {c : Bool} {pl : Pins}
theorem inv_go (S : FnScope N ps scope) (hd : c = true → A.handled = none) (hp : ∀ p ∈ pl, PinAt outer H s p) (e0 : Env0 P w K mg base A outer s H) (hl : vs.length = ps.length) (r : Vals vs us)
    (x : InCallC s s.heap.objs.size (bindL (envOfC qual scope s.heap.objs.size f cd).kindOf (ps.zip us) fun _ => none) (cellsFrom (s.heap.objs.size + 1) scope.names []) (bindC (envOfC qual scope s.heap.objs.size f cd).kindOf (ps.zip us) fun _ => none) s1) :
    Inv (cxG P w K mg base N qual scope f cd A outer s H E c pl) [] (start N vs) H s1 := by
  have e1 : Env0 P w K mg base { A with handled := none } outer s H := { frames := e0.frames, mod := e0.mod, bs := e0.bs, bsz := e0.bsz, funs := e0.funs, frf := e0.frf, hok := e0.hok, bare := e0.bare }
  have I : Inv (cxOf (L2.CX P w) P w K mg base N qual scope f cd { A with handled := none } outer s H E) [] (start N vs) H s1 := inv_start S rfl e1 hl r x
  have o := I.ok
  obtain ⟨h1, tk, rfl, hk⟩ := x.done
  refine { ok := { mod := o.mod, kind := o.kind, glob := o.glob, blt := o.blt, above := o.above, inj := o.inj, has := o.has, cab := o.cab, hd := fun z => hd z, frames := o.frames, stk := o.stk, exf := o.exf, bs := o.bs, bsz := o.bsz, noex := o.noex, exfs := o.exfs, funs := o.funs, frf := o.frf }
           os := I.os, bare := I.bare, base := I.base, loc := I.loc, cell := I.cell, free := I.free, freeC := I.freeC, pin := ?_, hok := I.hok, len := I.len }
  intro p hq
  have hq' : p ∈ pl := by simpa using (show p ∈ pl ++ ([] : Pins) from hq)
  have z := hp p hq'
  exact ⟨hk p.1 p.2 z.get, z.free, Nat.ne_of_lt (Heap.lt_size z.get), z.nofs, z.nocell⟩

/-- THE RULE of a def, its code known -/
theorem fn_goC {x : Str} {st : Stmt} {fd : FuncData} {k : Nat} {sp : Sq} (F : Fun K x qual st f fd) (S : FnScope N ps (defScope st)) (len : ∀ pl vs H Q E, sp pl vs H Q E → vs.length = ps.length)
    (body : ∀ (cdv : Value) (A : Around) (outer : List Env) (s : Shared) (H : Hp) (vs : List V) (Q : VK) (E : XK) (pl : Pins), fd.code = cdv → Rm c k (A.deeper (envOfC qual (defScope st) s.heap.objs.size f cdv)) → sp pl vs H Q E →
      ∃ t, PSs (cxG P w K mg base N qual (defScope st) f cdv A outer s H E c pl) (defBody st) t ∧ t { nx := fun _ H' => Q .non H', rt := Q } (start N vs) H) :
    FnG P w K mg base c (k + 1) f fd ps sp := by
  obtain ⟨oc, od, kV, doc, pm, an, cdv, ct, osl, rfl, lk, hcd⟩ := F.ex
  refine ⟨len, ?_⟩
  intro A outer s H args us vs Q E pl hr hp e0 hb r hsp
  have up : ∀ b o, base.get? b = some o → s.heap.get? b = some o := fun b o e => (e0.bs b o e).1
  have KX : K.In s.heap := e0.mod.kin.keeps up
  refine codeAny_call_function hr.deep (KX _ _ lk) rfl S.co S.gen rfl (PySem.W.codeRec_of KX hcd) (hb _ _ _ _ ?_)
  refine wpAny_newFunctionEnv_cells S.kind (fun y hy => ?_) fun env he s1 x => ?_
  · obtain ⟨n, v⟩ := y
    cases S.par n (List.of_mem_zip hy).1 with
    | inl q => exact Or.inl q
    | inr q => exact Or.inr ⟨q, PySem.W.cellsFrom_some _ _ _ (Or.inl q)⟩
  · subst he
    refine ⟨(e0.mod.nolimit.keeps up).keeps x.toInCall.keep, codeAny_func ?_⟩
    obtain ⟨t, ht, hq⟩ := body cdv A outer s H vs Q E pl rfl (hr.deeper _) hsp
    have I := inv_go (E := E) (c := c) (pl := pl) S hr.hd hp e0 (len _ _ _ _ _ hsp) r x
    refine wpAny_mono (ht.run [] s1 (start N vs) H _ I hq) (fun fl s' hs => ?_) (fun e s' hs => hs)
    cases fl with
    | brk => obtain ⟨_, _, _, q⟩ := hs; exact q.elim
    | cont => obtain ⟨_, _, _, q⟩ := hs; exact q.elim
    | ret u => obtain ⟨v, σ', H', J, rv, q⟩ := hs; exact ⟨v, H', J.os, J.bare, J.base, J.hok, rv, q⟩
    | next => obtain ⟨σ', H', J, q⟩ := hs; exact ⟨.non, H', J.os, J.bare, J.base, J.hok, rfl, q⟩
/-- THE RULE of a def -/
theorem fn_go {x : Str} {st : Stmt} {fd : FuncData} {k : Nat} {sp : Sq} (F : Fun K x qual st f fd) (S : FnScope N ps (defScope st)) (len : ∀ pl vs H Q E, sp pl vs H Q E → vs.length = ps.length)
    (body : ∀ (cdv : Value) (A : Around) (outer : List Env) (s : Shared) (H : Hp) (vs : List V) (Q : VK) (E : XK) (pl : Pins), Rm c k (A.deeper (envOfC qual (defScope st) s.heap.objs.size f cdv)) → sp pl vs H Q E →
      ∃ t, PSs (cxG P w K mg base N qual (defScope st) f cdv A outer s H E c pl) (defBody st) t ∧ t { nx := fun _ H' => Q .non H', rt := Q } (start N vs) H) :
    FnG P w K mg base c (k + 1) f fd ps sp := fn_goC F S len fun cdv A outer s H vs Q E pl _ hr h => body cdv A outer s H vs Q E pl hr h
end

section
variable {X : Cx} {c : Bool} {k : Nat} {f : Addr} {fd : FuncData} {ps : List Str} {sp : Sq} {E : L2.St → XK} {x : Str} {q pos : Pos} {e : Expr} {es : List Expr} {t : TA} {pl : Pins}
/-- what a call may let out -/
abbrev Lets (X : Cx) (E : L2.St → XK) : Prop := ∀ σ, PassesAt (L2.CX X.prog X.w) X σ (E σ)
theorem run_go {pins : Pins} {σ : L2.St} {H : Hp} {s : Shared} {Q : VK} {us : List Value} {vs : List V} (F : FnG X.prog X.w X.K X.mg X.base c k f fd ps sp) (hr : Rm c k X.A) (hp : ∀ p ∈ pl, p ∈ X.pn) (hb : Binds X.K fd ps []) (hx : Lets X E)
    (I : Inv X pins σ H s) (r : Vals vs us) (h : sp pl vs H Q (E σ)) : wpAny (model X.prog X.w) X.A (call (.ref f) us) (EP X pins σ Q) X.xe s := by
  have hl : (us ++ ([] : List Value)).length = ps.length := by rw [List.append_nil, ← r.length]; exact F.len _ _ _ _ _ h
  have b := hb s us I.kIn hl
  rw [List.append_nil] at b
  have pin : ∀ p ∈ pl, PinAt X.stack H s p := fun p hm => by
    have z := I.pin p (List.mem_append_left _ (hp p hm))
    refine { get := z.1, free := z.2.1, nofs := fun hf => ?_, nocell := z.2.2.2.2 }
    cases List.mem_cons.mp (I.stkSub p.1 hf) with
    | inl y => exact z.2.2.1 y
    | inr y => exact z.2.2.2.1 y
  refine wpAny_call (codeAny_mono (F.run X.A X.stack s H ⟨us, []⟩ us vs Q (E σ) pl hr pin I.env0 b r h) (fun r s' hq => ?_))
  match r, hq with
  | .error e, hq => exact hx σ pins H s e s' I hq
  | .ok (.ret u), hq => exact I.after hq
  | .ok .next, hq => exact hq.elim
  | .ok .brk, hq => exact hq.elim
  | .ok .cont, hq => exact hq.elim
/-- f(e, ..) -/
def tCallG (sp : Sq) (pl : Pins) (E : L2.St → XK) (t : TA) : TE := fun σ H Q => t σ H fun vs H1 => sp pl vs H1 Q (E σ)
theorem pe_go (F : FnG X.prog X.w X.K X.mg X.base c k f fd ps sp) (hr : Rm c k X.A) (hp : ∀ p ∈ pl, p ∈ X.pn) (hg : Gl X x) (hm : X.mg x = some (.ref f)) (hk : PySem.W.keepIn X.K (.ref f) = true) (hb : Binds X.K fd ps []) (hx : Lets X E)
    (ha : PA X (e :: es) t) (hdb : (x == ("__debug__" : Str)) = false := by decide) (he : starEach (e :: es) X.env = (false, eval e X.env) :: starEach es X.env := by rfl) (hpl : (backTo pos (starEach es X.env)).any (·.1) = false := by rfl) :
    PE X (.Call (.Name x q) (e :: es) [] pos) (tCallG sp pl E t) := by
  refine ⟨fun pins s σ H Q I h => ?_⟩
  refine wpAny_Call_Name_kw (ld_glob I hg hm ?_ hdb)
  refine PySem.W.callWith_K (h₀ := X.base) I.ok.mod.kin hk (thn (ha.run pos pins s σ H _ I h) ?_) he hpl
  intro us s1 z
  obtain ⟨vs, H1, I1, r, q⟩ := z
  exact ⟨I1.kIn, run_go F hr hp hb hx I1 r q⟩
/-- f() -/
theorem pe_go0 (F : FnG X.prog X.w X.K X.mg X.base c k f fd ps sp) (hr : Rm c k X.A) (hp : ∀ p ∈ pl, p ∈ X.pn) (hg : Gl X x) (hm : X.mg x = some (.ref f)) (hk : PySem.W.keepIn X.K (.ref f) = true) (hb : Binds X.K fd ps []) (hx : Lets X E)
    (hdb : (x == ("__debug__" : Str)) = false := by decide) : PE X (.Call (.Name x q) [] [] pos) (tCallG sp pl E tNil) := by
  refine ⟨fun pins s σ H Q I h => ?_⟩
  refine wpAny_Call_Name_kw (ld_glob I hg hm ?_ hdb)
  exact PySem.W.callWith_K0 I.kIn hk (run_go (us := []) F hr hp hb hx I .nil h)
/-- nothing is let out -/
theorem lets0 : Lets X (fun _ => E0) := fun _ pins H s e s' I z => by
  obtain ⟨_, _, _, _, _, _, _, _, _, _, _, _, q⟩ := z
  exact q.elim
end
end G

set_option Elab.async false
set_option linter.all false
set_option maxRecDepth 100000
set_option maxHeartbeats 4000000
/-! DBase: data (trees of plain values) in place of values and heaps; what a body does, told over data alone. -/
namespace G
open PySem PySem.Spec PyProof.Rows L2
/-! ### data -/
inductive D where
  | non | bl (b : Bool) | int (i : Int) | str (s : Str) | ty (n : String) | fn (a : Addr)
  | tup (l : List D) | lst (l : List D) | dic (l : List (Key × D)) | obj (C : Addr) (l : List (Str × D)) | exc (a : Addr) (dd : Option Addr) (C : Addr) (l : List (Str × D))
mutual
inductive Rp (K : PySem.W.Frag) (H : Hp) : V → D → Prop
  | non : Rp K H .non .non
  | bl (b : Bool) : Rp K H (.bl b) (.bl b)
  | int (i : Int) : Rp K H (.int i) (.int i)
  | str (s : Str) : Rp K H (.str s) (.str s)
  | ty (n : String) : Rp K H (.ty n) (.ty n)
  | fn (a : Addr) : Rp K H (.ref a) (.fn a)
  | tup {a : Addr} {xs : List V} {ds : List D} : SqT K H a xs → RpA K H xs ds → Rp K H (.ref a) (.tup ds)
  | lst {a : Addr} {xs : List V} {ds : List D} : H a = some (.lst xs) → RpA K H xs ds → Rp K H (.ref a) (.lst ds)
  | dic {a : Addr} {xs : List (Key × V)} {ds : List (Key × D)} : H a = some (.dK xs) → xs.map (·.1) = ds.map (·.1) → RpA K H (xs.map (·.2)) (ds.map (·.2)) → Rp K H (.ref a) (.dic ds)
  | obj {a C dx : Addr} {xs : List (Str × V)} {ds : List (Str × D)} : H a = some (.ins C dx xs) → xs.map (·.1) = ds.map (·.1) → RpA K H (xs.map (·.2)) (ds.map (·.2)) → Rp K H (.ref a) (.obj C ds)
  | exc {a dd C : Addr} {xs : List (Str × V)} {ds : List (Str × D)} : H dd = some (.xd xs) → xs.map (·.1) = ds.map (·.1) → RpA K H (xs.map (·.2)) (ds.map (·.2)) → Rp K H (.ref a) (.exc a (some dd) C ds)
  | exc0 (a C : Addr) : Rp K H (.ref a) (.exc a none C [])
inductive RpA (K : PySem.W.Frag) (H : Hp) : List V → List D → Prop
  | nil : RpA K H [] []
  | cons {v : V} {vs : List V} {d : D} {ds : List D} : Rp K H v d → RpA K H vs ds → RpA K H (v :: vs) (d :: ds)
end
def Ex (H H' : Hp) : Prop := ∀ a o, H a = some o → H' a = some o
theorem Ex.refl (H : Hp) : Ex H H := fun _ _ h => h
theorem Ex.trans {H H1 H2 : Hp} (a : Ex H H1) (b : Ex H1 H2) : Ex H H2 := fun x o h => b x o (a x o h)
theorem Ex.new {H : Hp} {p : Addr} {o : HO} (h : H p = none) : Ex H (upd H p o) := fun a u e => by rw [upd_ne (ne_of_none e h)]; exact e
theorem Ex.no {H H' : Hp} {p : Addr} (e : Ex H H') (h : H' p = none) : H p = none := by
  cases q : H p with
  | none => rfl
  | some o => rw [e p o q] at h; cases h
theorem Ex.up {H H' : Hp} {p : Addr} {o : HO} (e : Ex H H') : Ex (upd H p o) (upd H' p o) := fun a u h => by
  by_cases z : a = p
  · subst z; rw [upd_same] at h ⊢; exact h
  · rw [upd_ne z] at h ⊢; exact e a u h
theorem Ex.rd {H H' : Hp} {a : Addr} {u : HO} (e : Ex H H') (h : Rd H a u) : Rd H' a u := by
  cases h with
  | inl h => exact Or.inl (e _ _ h)
  | inr h => obtain ⟨o, h⟩ := h; exact Or.inr ⟨o, e _ _ h⟩
theorem Ex.sl {K : PySem.W.Frag} {H H' : Hp} {a : Addr} {xs : List V} (e : Ex H H') (h : SqL K H a xs) : SqL K H' a xs := h.elim (fun h => Or.inl (e.rd h)) Or.inr
theorem Ex.st {K : PySem.W.Frag} {H H' : Hp} {a : Addr} {xs : List V} (e : Ex H H') (h : SqT K H a xs) : SqT K H' a xs := h.elim (fun h => Or.inl (e.rd h)) Or.inr
section
variable {K : PySem.W.Frag} {H H' : Hp}
mutual
theorem Rp.up (e : Ex H H') : ∀ {v : V} {d : D}, Rp K H v d → Rp K H' v d
  | _, _, .non => .non
  | _, _, .bl b => .bl b
  | _, _, .int i => .int i
  | _, _, .str s => .str s
  | _, _, .ty n => .ty n
  | _, _, .fn a => .fn a
  | _, _, .tup h r => .tup (e.st h) (RpA.up e r)
  | _, _, .lst h r => .lst (e _ _ h) (RpA.up e r)
  | _, _, .dic h k r => .dic (e _ _ h) k (RpA.up e r)
  | _, _, .obj h k r => .obj (e _ _ h) k (RpA.up e r)
  | _, _, .exc h k r => .exc (e _ _ h) k (RpA.up e r)
  | _, _, .exc0 a C => .exc0 a C
theorem RpA.up (e : Ex H H') : ∀ {vs : List V} {ds : List D}, RpA K H vs ds → RpA K H' vs ds
  | _, _, .nil => .nil
  | _, _, .cons h r => .cons (Rp.up e h) (RpA.up e r)
end
theorem RpA.len : ∀ {vs : List V} {ds : List D}, RpA K H vs ds → vs.length = ds.length
  | _, _, .nil => rfl
  | _, _, .cons _ r => congrArg (· + 1) r.len
theorem RpA.at : ∀ {vs : List V} {ds : List D} {i : Nat} {d : D}, RpA K H vs ds → ds[i]? = some d → ∃ v, vs[i]? = some v ∧ Rp K H v d
  | _, _, _, _, .nil, h => by simp at h
  | _, _, 0, _, .cons (v := v) q _, h => by simp at h; subst h; exact ⟨v, rfl, q⟩
  | _, _, i + 1, _, .cons _ r, h => by
    obtain ⟨v, e, q⟩ := r.at (i := i) (by simpa using h)
    exact ⟨v, by simpa using e, q⟩
theorem RpA.at' : ∀ {vs : List V} {ds : List D} {i : Nat} {v : V}, RpA K H vs ds → vs[i]? = some v → ∃ d, ds[i]? = some d ∧ Rp K H v d
  | _, _, _, _, .nil, h => by simp at h
  | _, _, 0, _, .cons (d := d) q _, h => by simp at h; subst h; exact ⟨d, rfl, q⟩
  | _, _, i + 1, _, .cons _ r, h => by
    obtain ⟨v, e, q⟩ := r.at' (i := i) (by simpa using h)
    exact ⟨v, by simpa using e, q⟩
theorem RpA.app : ∀ {vs ws : List V} {ds es : List D}, RpA K H vs ds → RpA K H ws es → RpA K H (vs ++ ws) (ds ++ es)
  | _, _, _, _, .nil, r => r
  | _, _, _, _, .cons q r, s => .cons q (r.app s)
theorem RpA.ints : ∀ {ns : List Int}, RpA K H (ns.map V.int) (ns.map D.int)
  | [] => .nil
  | n :: r => .cons (.int n) RpA.ints
end

/-! ### the pen of the laws: the dict from which all is drawn -/
def PenO (K : PySem.W.Frag) (Hf : Hp) (o : HO) : Prop :=
  ∃ (c : Addr) (ns : List Int) (at' dg cn fo : Int), o = .dK [(Sum.inr "cells", .ref c), (Sum.inr "at", .int at'), (Sum.inr "digits", .int dg), (Sum.inr "count", .int cn), (Sum.inr "fold", .int fo)] ∧
    SqL K Hf c (ns.map V.int) ∧ 0 ≤ at' ∧ 0 ≤ dg ∧ dg.natAbs < 2 ^ 1048577 ∧ 0 ≤ fo ∧ fo < 2 ^ 31 ∧ (∀ n ∈ ns, Builtin.Int.intBits n ≤ 1048576)
theorem PenO.up {K : PySem.W.Frag} {H H' : Hp} {o : HO} (e : Ex H H') (h : PenO K H o) : PenO K H' o := by
  obtain ⟨c, ns, a, d, n, f, q, s, r⟩ := h
  exact ⟨c, ns, a, d, n, f, q, e.sl s, r⟩

/-! ### what stands ahead of a body: B what may not be touched, F what may be read for good, M the pens -/
structure Bs where
  B : Hp
  F : Hp
  M : List Addr
  T : List (Addr × Str)
/-- what may change under a body: pens, tables of code -/
def Bs.mt (b : Bs) (a : Addr) : Prop := a ∈ b.M ∨ a ∈ b.T.map (·.1)
theorem Bs.mtM {b : Bs} {a : Addr} (h : a ∈ b.M) : b.mt a := Or.inl h
theorem Bs.mtT {b : Bs} {p : Addr × Str} (h : p ∈ b.T) : b.mt p.1 := Or.inr (List.mem_map.mpr ⟨p, h, rfl⟩)
theorem Bs.mt0 {B F : Hp} {M : List Addr} {a : Addr} (h : a ∉ M) : ¬ (Bs.mt ⟨B, F, M, []⟩ a) := fun z => z.elim h (fun z => by cases z)
/-- the table at P: what it tells are known code objects of the name q -/
def TabOk (Hf H : Hp) (P : Addr) (q : Str) : Prop := ∃ ps : Array Value, H P = some (.tbl ps) ∧ TriplesOk ps.toList ∧ ∀ (pos : Pos) (cv : Value), codeAmong pos ps.toList = some cv → ∃ c, cv = .ref c ∧ Hf c = some (LamX.CodeO c q)
theorem TabOk.up {Hf H Hf' H' : Hp} {P : Addr} {q : Str} (t : TabOk Hf H P q) (e : Ex Hf Hf') (h : H' P = H P) : TabOk Hf' H' P q := by
  obtain ⟨ps, h1, h2, h3⟩ := t
  refine ⟨ps, h.trans h1, h2, fun pos cv hc => ?_⟩
  obtain ⟨c, e1, e2⟩ := h3 pos cv hc
  exact ⟨c, e1, e _ _ e2⟩
theorem TabOk.ne {Hf H : Hp} {P p : Addr} {q : Str} (t : TabOk Hf H P q) (h : H p = none ∨ ∃ xs, H p = some (.lst xs)) : P ≠ p := fun z => by
  obtain ⟨ps, h1, _⟩ := t
  rw [z] at h1
  rcases h with h | ⟨xs, h⟩
  · rw [h] at h1; cases h1
  · rw [h] at h1; cases h1
structure Exit (K : PySem.W.Frag) (b : Bs) (Hf H : Hp) : Prop where
  exF : Ex Hf H
  ex0 : Ex b.F Hf
  exB : Ex b.B H
  frz : ∀ a, b.B a ≠ none → b.F a = none → Hf a = none
  pens : ∀ p ∈ b.M, Hf p = none ∧ b.B p = none ∧ ∃ o, H p = some o ∧ PenO K Hf o
  tabs : ∀ p ∈ b.T, Hf p.1 = none ∧ b.B p.1 = none ∧ p.1 ∉ b.M ∧ TabOk Hf H p.1 p.2
/-- what a slot holds: nothing told | data, shared | a list of one's own | the pen -/
inductive Sl where
  | no | sh (d : D) | ow (ds : List D) | pen
def SlOk (K : PySem.W.Frag) (M : List Addr) (Hf H : Hp) : Option V → Sl → Prop
  | _, .no => True
  | some v, .sh d => Rp K Hf v d
  | some v, .ow ds => ∃ a xs, v = .ref a ∧ Hf a = none ∧ H a = some (.lst xs) ∧ RpA K Hf xs ds ∧ a ∉ M
  | some v, .pen => ∃ p ∈ M, v = .ref p
  | none, _ => False
def Own (σ : L2.St) (ρ : List Sl) (i : Nat) (a : Addr) : Prop := (∃ ds, ρ[i]? = some (.ow ds)) ∧ σ[i]? = some (some (.ref a))
structure Fm (K : PySem.W.Frag) (b : Bs) (Hf H : Hp) (σ : L2.St) (ρ : List Sl) : Prop where
  ex : Exit K b Hf H
  len : σ.length = ρ.length
  sl : ∀ (i : Nat) (o : Option V) (s : Sl), σ[i]? = some o → ρ[i]? = some s → SlOk K b.M Hf H o s
  mine : ∀ i a, Own σ ρ i a → b.B a = none
  sep : ∀ i j a, Own σ ρ i a → Own σ ρ j a → i = j

section
variable {K : PySem.W.Frag} {b : Bs} {Hf H Hf' H' : Hp} {σ : L2.St} {ρ : List Sl}
/-- nothing of one's own is touched -/
theorem Fm.step (fr : Fm K b Hf H σ ρ) (x : Exit K b Hf' H') (e : Ex Hf Hf') (k : ∀ a xs, H a = some (.lst xs) → Hf a = none → b.B a = none → a ∉ b.M → Hf' a = none ∧ H' a = some (.lst xs)) : Fm K b Hf' H' σ ρ := by
  refine { ex := x, len := fr.len, sl := fun i o s h1 h2 => ?_, mine := fr.mine, sep := fr.sep }
  have q := fr.sl i o s h1 h2
  match o, s, q with
  | _, .no, _ => trivial
  | some v, .sh d, q => exact Rp.up e q
  | some v, .pen, q => exact q
  | some v, .ow ds, q =>
    obtain ⟨a, xs, rfl, h3, h4, r, nm⟩ := q
    obtain ⟨z1, z2⟩ := k a xs h4 h3 (fr.mine i a ⟨⟨ds, h2⟩, h1⟩) nm
    exact ⟨a, xs, rfl, z1, z2, RpA.up e r, nm⟩
theorem Exit.put (x : Exit K b Hf H) {p : Addr} {o : HO} (hp : H p = none) : Exit K b (upd Hf p o) (upd H p o) := by
  have np := x.exF.no hp
  have nb := x.exB.no hp
  refine { exF := x.exF.up, ex0 := x.ex0.trans (Ex.new np), exB := x.exB.trans (Ex.new hp), frz := fun a h1 h2 => ?_, pens := fun q hq => ?_, tabs := fun q hq => ?_ }
  · rw [upd_ne (fun z => h1 (by rw [z]; exact nb))]
    exact x.frz a h1 h2
  · obtain ⟨h1, h2, ob, h3, h4⟩ := x.pens q hq
    have n : q ≠ p := ne_of_none h3 hp
    exact ⟨by rw [upd_ne n]; exact h1, h2, ob, by rw [upd_ne n]; exact h3, h4.up (Ex.new np)⟩
  · obtain ⟨h1, h2, h3, h4⟩ := x.tabs q hq
    have n := h4.ne (Or.inl hp)
    exact ⟨by rw [upd_ne n]; exact h1, h2, h3, h4.up (Ex.new np) (upd_ne n)⟩
/-- a new object is laid -/
theorem Fm.put (fr : Fm K b Hf H σ ρ) {p : Addr} {o : HO} (hp : H p = none) : Fm K b (upd Hf p o) (upd H p o) σ ρ :=
  fr.step (fr.ex.put hp) (Ex.new (fr.ex.exF.no hp)) fun a xs h1 h2 _ _ => by
    have n : a ≠ p := ne_of_none h1 hp
    rw [upd_ne n, upd_ne n]
    exact ⟨h2, h1⟩
/-- a slot is set to shared data -/
theorem Fm.set (fr : Fm K b Hf H σ ρ) {i : Nat} {v : V} {d : D} (r : Rp K Hf v d) : Fm K b Hf H (σ.set i (some v)) (ρ.set i (.sh d)) := by
  have own : ∀ j a, Own (σ.set i (some v)) (ρ.set i (.sh d)) j a → Own σ ρ j a := fun j a ⟨⟨ds, h1⟩, h2⟩ => by
    by_cases z : j = i
    · subst z
      rw [List.getElem?_set] at h1
      simp at h1
    · rw [List.getElem?_set_ne (Ne.symm z)] at h1 h2
      exact ⟨⟨ds, h1⟩, h2⟩
  refine { ex := fr.ex, len := by rw [List.length_set, List.length_set]; exact fr.len, sl := fun j o s h1 h2 => ?_, mine := fun j a h => fr.mine j a (own j a h), sep := fun j k a h1 h2 => fr.sep j k a (own j a h1) (own k a h2) }
  by_cases z : j = i
  · subst z
    rw [List.getElem?_set] at h1 h2
    simp at h1 h2
    obtain ⟨_, rfl⟩ := h1
    obtain ⟨_, rfl⟩ := h2
    exact r
  · rw [List.getElem?_set_ne (Ne.symm z)] at h1 h2
    exact fr.sl j o s h1 h2
/-- a slot is forgotten -/
theorem Fm.drop (fr : Fm K b Hf H σ ρ) {i : Nat} {o' : Option V} : Fm K b Hf H (σ.set i o') (ρ.set i .no) := by
  have own : ∀ j a, Own (σ.set i o') (ρ.set i .no) j a → Own σ ρ j a := fun j a ⟨⟨ds, h1⟩, h2⟩ => by
    by_cases z : j = i
    · subst z
      rw [List.getElem?_set] at h1
      simp at h1
    · rw [List.getElem?_set_ne (Ne.symm z)] at h1 h2
      exact ⟨⟨ds, h1⟩, h2⟩
  refine { ex := fr.ex, len := by rw [List.length_set, List.length_set]; exact fr.len, sl := fun j o s h1 h2 => ?_, mine := fun j a h => fr.mine j a (own j a h), sep := fun j k a h1 h2 => fr.sep j k a (own j a h1) (own k a h2) }
  by_cases z : j = i
  · subst z
    rw [List.getElem?_set] at h2
    simp at h2
    obtain ⟨_, rfl⟩ := h2
    match o with
    | none => trivial
    | some _ => trivial
  · rw [List.getElem?_set_ne (Ne.symm z)] at h1 h2
    exact fr.sl j o s h1 h2
/-- a new list becomes one's own -/
theorem Fm.own (fr : Fm K b Hf H σ ρ) {i : Nat} {p : Addr} {xs : List V} {ds : List D} (hp : H p = none) (r : RpA K Hf xs ds) : Fm K b Hf (upd H p (.lst xs)) (σ.set i (some (.ref p))) (ρ.set i (.ow ds)) := by
  have np := fr.ex.exF.no hp
  have nm : p ∉ b.M := fun z => by
    obtain ⟨_, _, o, h3, _⟩ := fr.ex.pens p z
    rw [hp] at h3; cases h3
  have old : ∀ j a, j ≠ i → Own (σ.set i (some (.ref p))) (ρ.set i (.ow ds)) j a → Own σ ρ j a ∧ a ≠ p := fun j a z ⟨⟨es, h1⟩, h2⟩ => by
    rw [List.getElem?_set_ne (Ne.symm z)] at h1 h2
    refine ⟨⟨⟨es, h1⟩, h2⟩, fun e => ?_⟩
    obtain ⟨a', ys, e1, _, h3, _⟩ := fr.sl j _ _ h2 h1
    cases e1
    rw [e, hp] at h3; cases h3
  have at_i : ∀ a, Own (σ.set i (some (.ref p))) (ρ.set i (.ow ds)) i a → a = p := fun a ⟨_, h2⟩ => by
    rw [List.getElem?_set] at h2
    simp at h2
    exact h2.2.symm
  refine { ex := ?_, len := by rw [List.length_set, List.length_set]; exact fr.len, sl := fun j o s h1 h2 => ?_, mine := fun j a h => ?_, sep := fun j k a h1 h2 => ?_ }
  · refine { exF := fr.ex.exF.trans (Ex.new hp), ex0 := fr.ex.ex0, exB := fr.ex.exB.trans (Ex.new hp), frz := fr.ex.frz, pens := fun q hq => ?_, tabs := fun q hq => ?_ }
    · obtain ⟨h1, h2, ob, h3, h4⟩ := fr.ex.pens q hq
      exact ⟨h1, h2, ob, by rw [upd_ne (ne_of_none h3 hp)]; exact h3, h4⟩
    · obtain ⟨h1, h2, h3, h4⟩ := fr.ex.tabs q hq
      exact ⟨h1, h2, h3, h4.up (Ex.refl _) (upd_ne (h4.ne (Or.inl hp)))⟩
  · by_cases z : j = i
    · subst z
      rw [List.getElem?_set] at h1 h2
      simp at h1 h2
      obtain ⟨_, rfl⟩ := h1
      obtain ⟨_, rfl⟩ := h2
      exact ⟨p, xs, rfl, np, upd_same, r, nm⟩
    · rw [List.getElem?_set_ne (Ne.symm z)] at h1 h2
      have q := fr.sl j o s h1 h2
      match o, s, q with
      | none, .no, _ => trivial
      | some _, .no, _ => trivial
      | some v, .sh d, q => exact q
      | some v, .pen, q => exact q
      | some v, .ow es, q =>
        obtain ⟨a, ys, rfl, h3, h4, r', nm'⟩ := q
        exact ⟨a, ys, rfl, h3, by rw [upd_ne (ne_of_none h4 hp)]; exact h4, r', nm'⟩
  · by_cases z : j = i
    · subst z
      rw [at_i a h]
      exact fr.ex.exB.no hp
    · exact fr.mine j a (old j a z h).1
  · by_cases z : j = i
    · by_cases y : k = i
      · rw [z, y]
      · subst z
        exact ((old k a y h2).2 (at_i a h1)).elim
    · by_cases y : k = i
      · subst y
        exact ((old j a z h1).2 (at_i a h2)).elim
      · exact fr.sep j k a (old j a z h1).1 (old k a y h2).1
/-- one's own list is changed -/
theorem Fm.chg (fr : Fm K b Hf H σ ρ) {i : Nat} {p : Addr} {xs : List V} {ds es : List D} (hi : ρ[i]? = some (.ow ds)) (hs : σ[i]? = some (some (.ref p))) (r : RpA K Hf xs es) : Fm K b Hf (upd H p (.lst xs)) σ (ρ.set i (.ow es)) := by
  obtain ⟨p', ys, e0, np, hp, _, nm⟩ := fr.sl i _ _ hs hi
  cases e0
  have nb := fr.mine i p ⟨⟨ds, hi⟩, hs⟩
  have own : ∀ j a, Own σ (ρ.set i (.ow es)) j a → Own σ ρ j a := fun j a ⟨⟨fs, h1⟩, h2⟩ => by
    by_cases z : j = i
    · subst z
      exact ⟨⟨ds, hi⟩, h2⟩
    · rw [List.getElem?_set_ne (Ne.symm z)] at h1
      exact ⟨⟨fs, h1⟩, h2⟩
  refine { ex := ?_, len := by rw [List.length_set]; exact fr.len, sl := fun j o s h1 h2 => ?_, mine := fun j a h => fr.mine j a (own j a h), sep := fun j k a h1 h2 => fr.sep j k a (own j a h1) (own k a h2) }
  · refine { exF := fun a o e => ?_, ex0 := fr.ex.ex0, exB := fun a o e => ?_, frz := fr.ex.frz, pens := fun q hq => ?_, tabs := fun q hq => ?_ }
    · rw [upd_ne (ne_of_none e np)]; exact fr.ex.exF a o e
    · rw [upd_ne (ne_of_none e nb)]; exact fr.ex.exB a o e
    · obtain ⟨h1, h2, ob, h3, h4⟩ := fr.ex.pens q hq
      exact ⟨h1, h2, ob, by rw [upd_ne (fun z => nm (by rw [← z]; exact hq))]; exact h3, h4⟩
    · obtain ⟨h1, h2, h3, h4⟩ := fr.ex.tabs q hq
      exact ⟨h1, h2, h3, h4.up (Ex.refl _) (upd_ne (h4.ne (Or.inr ⟨_, hp⟩)))⟩
  · by_cases z : j = i
    · subst z
      rw [h1] at hs
      cases hs
      rw [List.getElem?_set] at h2
      simp at h2
      obtain ⟨_, rfl⟩ := h2
      exact ⟨p, xs, rfl, np, upd_same, r, nm⟩
    · rw [List.getElem?_set_ne (Ne.symm z)] at h2
      have q := fr.sl j o s h1 h2
      match o, s, q, h1, h2 with
      | none, .no, _, _, _ => trivial
      | some _, .no, _, _, _ => trivial
      | some v, .sh d, q, _, _ => exact q
      | some v, .pen, q, _, _ => exact q
      | some v, .ow fs, q, h1, h2 =>
        obtain ⟨a, zs, rfl, h3, h4, r', nm'⟩ := q
        have n : a ≠ p := fun e => z (fr.sep j i a ⟨⟨fs, h2⟩, h1⟩ ⟨⟨ds, hi⟩, by rw [e]; exact hs⟩)
        exact ⟨a, zs, rfl, h3, by rw [upd_ne n]; exact h4, r', nm'⟩
/-- one's own list is shared from now on -/
theorem Fm.share (fr : Fm K b Hf H σ ρ) {i : Nat} {ds : List D} (hi : ρ[i]? = some (.ow ds)) : ∃ Hf', Ex Hf Hf' ∧ Fm K b Hf' H σ (ρ.set i (.sh (.lst ds))) := by
  have hl : i < σ.length := by rw [fr.len]; exact (List.getElem?_eq_some_iff.mp hi).1
  obtain ⟨o, ho⟩ : ∃ o, σ[i]? = some o := ⟨_, List.getElem?_eq_getElem hl⟩
  have q := fr.sl i o _ ho hi
  match o, q, ho with
  | none, q, _ => exact q.elim
  | some v, q, ho =>
    obtain ⟨p, xs, rfl, np, hp, r, nm⟩ := q
    have e := Ex.new (o := .lst xs) np
    have nb := fr.mine i p ⟨⟨ds, hi⟩, ho⟩
    have own : ∀ j a, Own σ (ρ.set i (.sh (.lst ds))) j a → Own σ ρ j a ∧ j ≠ i := fun j a ⟨⟨fs, h1⟩, h2⟩ => by
      by_cases z : j = i
      · subst z
        rw [List.getElem?_set] at h1
        simp at h1
      · rw [List.getElem?_set_ne (Ne.symm z)] at h1
        exact ⟨⟨⟨fs, h1⟩, h2⟩, z⟩
    refine ⟨upd Hf p (.lst xs), e, { ex := ?_, len := by rw [List.length_set]; exact fr.len, sl := fun j o s h1 h2 => ?_, mine := fun j a h => fr.mine j a (own j a h).1, sep := fun j k a h1 h2 => fr.sep j k a (own j a h1).1 (own k a h2).1 }⟩
    · refine { exF := fun a o h => ?_, ex0 := fr.ex.ex0.trans e, exB := fr.ex.exB, frz := fun a h1 h2 => ?_, pens := fun q hq => ?_, tabs := fun q hq => ?_ }
      · by_cases z : a = p
        · subst z; rw [upd_same] at h; cases h; exact hp
        · rw [upd_ne z] at h; exact fr.ex.exF a o h
      · rw [upd_ne (fun z => h1 (by rw [z]; exact nb))]; exact fr.ex.frz a h1 h2
      · obtain ⟨h1, h2, ob, h3, h4⟩ := fr.ex.pens q hq
        exact ⟨by rw [upd_ne (fun z => nm (by rw [← z]; exact hq))]; exact h1, h2, ob, h3, h4.up e⟩
      · obtain ⟨h1, h2, h3, h4⟩ := fr.ex.tabs q hq
        exact ⟨by rw [upd_ne (h4.ne (Or.inr ⟨_, hp⟩))]; exact h1, h2, h3, h4.up e rfl⟩
    · by_cases z : j = i
      · subst z
        rw [ho] at h1
        cases h1
        rw [List.getElem?_set] at h2
        simp at h2
        obtain ⟨_, rfl⟩ := h2
        exact Rp.lst upd_same (RpA.up e r)
      · rw [List.getElem?_set_ne (Ne.symm z)] at h2
        have q := fr.sl j o s h1 h2
        match o, s, q, h1, h2 with
        | none, .no, _, _, _ => trivial
        | some _, .no, _, _, _ => trivial
        | some v, .sh d, q, _, _ => exact Rp.up e q
        | some v, .pen, q, _, _ => exact q
        | some v, .ow fs, q, h1, h2 =>
          obtain ⟨a, zs, rfl, h3, h4, r', nm'⟩ := q
          have n : a ≠ p := fun y => z (fr.sep j i a ⟨⟨fs, h2⟩, h1⟩ ⟨⟨ds, hi⟩, by rw [y]; exact ho⟩)
          exact ⟨a, zs, rfl, by rw [upd_ne n]; exact h3, h4, RpA.up e r', nm'⟩
end
end G

set_option Elab.async false
set_option linter.all false
set_option maxRecDepth 100000
set_option maxHeartbeats 4000000
/-! DRules: readings over data: expressions (DE), arguments (DA, DC), tests (DT), statements (DS). -/
namespace G
open PySem PySem.Spec PyProof.Rows L2
/-! ### data as plain data of the library -/
def keyPy : Key → PyData
  | .inl i => .int i
  | .inr x => .str x
mutual
def D.py : D → PyData
  | .non => .none
  | .bl b => .bool b
  | .int i => .int i
  | .str s => .str s
  | .ty _ => .none
  | .fn _ => .none
  | .tup l => .tuple (D.pyL l)
  | .lst l => .list (D.pyL l)
  | .dic l => .dict (D.pyK l)
  | .obj _ _ => .none
  | .exc _ _ _ _ => .none
def D.pyL : List D → List PyData
  | [] => []
  | d :: r => d.py :: D.pyL r
def D.pyK : List (Key × D) → List (PyData × PyData)
  | [] => []
  | (k, d) :: r => (keyPy k, d.py) :: D.pyK r
end
/-! plain: no classes, defs, objects -/
mutual
def D.pl : D → Bool
  | .non => true
  | .bl _ => true
  | .int _ => true
  | .str _ => true
  | .ty _ => false
  | .fn _ => false
  | .tup l => D.plL l
  | .lst l => D.plL l
  | .dic l => D.plK l
  | .obj _ _ => false
  | .exc _ _ _ _ => false
def D.plL : List D → Bool
  | [] => true
  | d :: r => d.pl && D.plL r
def D.plK : List (Key × D) → Bool
  | [] => true
  | (_, d) :: r => d.pl && D.plK r
end
/-! no dict within -/
mutual
def D.nd : D → Bool
  | .tup l => D.ndL l
  | .lst l => D.ndL l
  | .dic _ => false
  | _ => true
def D.ndL : List D → Bool
  | [] => true
  | d :: r => d.nd && D.ndL r
end
section
variable {K : PySem.W.Frag} {H : Hp}
mutual
theorem Rp.dp : ∀ {v : V} {d : D}, Rp K H v d → d.pl = true → d.nd = true → Dp K H v d.py
  | _, .non, .non, _, _ => Dp.non
  | _, .bl b, .bl _, _, _ => Dp.bl b
  | _, .int i, .int _, _, _ => Dp.int i
  | _, .str s, .str _, _, _ => Dp.str s
  | _, .ty _, _, h, _ => by simp [D.pl] at h
  | _, .fn _, _, h, _ => by simp [D.pl] at h
  | _, .tup l, .tup h r, hp, hn => by
    simp only [D.py]
    exact Dp.tup h (RpA.dp r (by simpa [D.pl] using hp) (by simpa [D.nd] using hn))
  | _, .lst l, .lst h r, hp, hn => by
    simp only [D.py]
    exact Dp.lst (SqL.of h) (RpA.dp r (by simpa [D.pl] using hp) (by simpa [D.nd] using hn))
  | _, .dic _, _, _, h => by simp [D.nd] at h
  | _, .obj _ _, _, h, _ => by simp [D.pl] at h
  | _, .exc _ _ _ _, _, h, _ => by simp [D.pl] at h
theorem RpA.dp : ∀ {vs : List V} {ds : List D}, RpA K H vs ds → D.plL ds = true → D.ndL ds = true → DpAll K H vs (D.pyL ds)
  | _, [], .nil, _, _ => by simp only [D.pyL]; exact DpAll.nil
  | _, d :: r, .cons q t, hp, hn => by
    simp only [D.plL, Bool.and_eq_true] at hp
    simp only [D.ndL, Bool.and_eq_true] at hn
    simp only [D.pyL]
    exact DpAll.cons (Rp.dp q hp.1 hn.1) (RpA.dp t hp.2 hn.2)
end
theorem Rp.int_inv {v : V} {i : Int} (h : Rp K H v (.int i)) : v = .int i := by cases h; rfl
theorem Rp.bl_inv {v : V} {i : Bool} (h : Rp K H v (.bl i)) : v = .bl i := by cases h; rfl
theorem Rp.str_inv {v : V} {i : Str} (h : Rp K H v (.str i)) : v = .str i := by cases h; rfl
theorem Rp.non_inv {v : V} (h : Rp K H v .non) : v = .non := by cases h; rfl
end

/-! ### readings over data -/
/-- nothing but the pens is changed -/
def Up (b : Bs) (Hf H Hf' H' : Hp) : Prop := Ex Hf Hf' ∧ ∀ a o, H a = some o → ¬ b.mt a → H' a = some o ∧ (Hf a = none → Hf' a = none)
theorem Up.refl {b : Bs} {Hf H : Hp} : Up b Hf H Hf H := ⟨Ex.refl _, fun _ _ h _ => ⟨h, fun z => z⟩⟩
theorem Up.trans {b : Bs} {Hf H Hf1 H1 Hf2 H2 : Hp} (x : Up b Hf H Hf1 H1) (y : Up b Hf1 H1 Hf2 H2) : Up b Hf H Hf2 H2 := ⟨x.1.trans y.1, fun a o h n => by
  obtain ⟨h1, h2⟩ := x.2 a o h n
  obtain ⟨h3, h4⟩ := y.2 a o h1 n
  exact ⟨h3, fun z => h4 (h2 z)⟩⟩
theorem Up.new {b : Bs} {Hf H : Hp} {p : Addr} {o : HO} (hp : H p = none) (hf : Hf p = none) : Up b Hf H (upd Hf p o) (upd H p o) := ⟨Ex.new hf, fun a u h _ => by
  have n := ne_of_none h hp
  rw [upd_ne n, upd_ne n]
  exact ⟨h, fun z => z⟩⟩
def DE (K : PySem.W.Frag) (b : Bs) (ρ : List Sl) (t : TE) (Q : D → Prop) : Prop := ∀ (Hf H : Hp) (σ : L2.St) (k : VK), Fm K b Hf H σ ρ →
  (∀ v d Hf' H', Up b Hf H Hf' H' → Fm K b Hf' H' σ ρ → Rp K Hf' v d → Q d → k v H') → t σ H k
/-- a new list, not shared yet -/
def DN (K : PySem.W.Frag) (b : Bs) (ρ : List Sl) (t : TE) (Q : List D → Prop) : Prop := ∀ (Hf H : Hp) (σ : L2.St) (k : VK), Fm K b Hf H σ ρ →
  (∀ p xs ds Hf' H', Up b Hf H Hf' H' → Fm K b Hf' H' σ ρ → H' p = none → RpA K Hf' xs ds → Q ds → k (.ref p) (upd H' p (.lst xs))) → t σ H k
def DT (K : PySem.W.Frag) (b : Bs) (ρ : List Sl) (t : TT) (Q : Bool → Prop) : Prop := ∀ (Hf H : Hp) (σ : L2.St) (k : Bool → Hp → Prop), Fm K b Hf H σ ρ →
  (∀ c Hf' H', Up b Hf H Hf' H' → Fm K b Hf' H' σ ρ → Q c → k c H') → t σ H k
def DA (K : PySem.W.Frag) (b : Bs) (ρ : List Sl) (t : TA) (Q : List D → Prop) : Prop := ∀ (Hf H : Hp) (σ : L2.St) (k : List V → Hp → Prop), Fm K b Hf H σ ρ →
  (∀ vs ds Hf' H', Up b Hf H Hf' H' → Fm K b Hf' H' σ ρ → RpA K Hf' vs ds → Q ds → k vs H') → t σ H k
/-- arguments of a def: data, or the pen -/
def ArgOk (K : PySem.W.Frag) (M : List Addr) (Hf : Hp) : V → Sl → Prop
  | v, .sh d => Rp K Hf v d
  | v, .pen => ∃ p ∈ M, v = .ref p
  | _, _ => False
theorem ArgOk.up {K : PySem.W.Frag} {M : List Addr} {Hf Hf' : Hp} {v : V} {s : Sl} (e : Ex Hf Hf') (h : ArgOk K M Hf v s) : ArgOk K M Hf' v s := by
  match s, h with
  | .sh d, h => exact Rp.up e h
  | .pen, h => exact h
def DC (K : PySem.W.Frag) (b : Bs) (ρ : List Sl) (t : TA) (Q : List Sl → Prop) : Prop := ∀ (Hf H : Hp) (σ : L2.St) (k : List V → Hp → Prop), Fm K b Hf H σ ρ →
  (∀ vs ss Hf' H', Up b Hf H Hf' H' → Fm K b Hf' H' σ ρ → Paired (ArgOk K b.M Hf') vs ss → Q ss → k vs H') → t σ H k
def DS (K : PySem.W.Frag) (b : Bs) (ρ : List Sl) (t : TS) (nx : List Sl → Prop) (rt : D → Prop) (bk ct : List Sl → Prop) : Prop := ∀ (Hf H : Hp) (σ : L2.St) (D : Ends), Fm K b Hf H σ ρ →
  (∀ ρ' σ' Hf' H', Ex Hf Hf' → Fm K b Hf' H' σ' ρ' → nx ρ' → D.nx σ' H') → (∀ v d Hf' H', Ex Hf Hf' → Exit K b Hf' H' → Rp K Hf' v d → rt d → D.rt v H') →
  (∀ ρ' σ' Hf' H', Ex Hf Hf' → Fm K b Hf' H' σ' ρ' → bk ρ' → D.bk σ' H') → (∀ ρ' σ' Hf' H', Ex Hf Hf' → Fm K b Hf' H' σ' ρ' → ct ρ' → D.ct σ' H') → t D σ H

/-- the fields of an error, at its own dict (none: it has none) -/
def ExD (K : PySem.W.Frag) (Hf : Hp) : Option Addr → List (Str × D) → Prop
  | some dx, fs => ∃ fv, Hf dx = some (.xd fv) ∧ fv.map (·.1) = fs.map (·.1) ∧ RpA K Hf (fv.map (·.2)) (fs.map (·.2))
  | none, fs => fs = []
theorem ExD.up {K : PySem.W.Frag} {Hf Hf' : Hp} {d : Option Addr} {fs : List (Str × D)} (e : Ex Hf Hf') (h : ExD K Hf d fs) : ExD K Hf' d fs := by
  match d, h with
  | none, h => exact h
  | some dx, h =>
    obtain ⟨fv, h1, h2, h3⟩ := h
    exact ⟨fv, e _ _ h1, h2, h3.up e⟩
theorem ExD.rp {K : PySem.W.Frag} {Hf : Hp} {d : Option Addr} {fs : List (Str × D)} (a C : Addr) (h : ExD K Hf d fs) : Rp K Hf (.ref a) (.exc a d C fs) := by
  match d, h with
  | none, h =>
    have h' : fs = [] := h
    subst h'
    exact .exc0 a C
  | some dx, h =>
    obtain ⟨fv, h1, h2, h3⟩ := h
    exact .exc h1 h2 h3
/-- what a def over data promises: F tells, for arguments, what is enough that the result is as wished (R), an exception too (X: its class, its fields) -/
abbrev DF := List Sl → (D → Prop) → (Addr → List (Str × D) → Prop) → Prop
def spD (K : PySem.W.Frag) (F : DF) : Sp := fun vs H Q E => ∃ (Hf : Hp) (M : List Addr) (ss : List Sl) (R : D → Prop) (X : Addr → List (Str × D) → Prop),
  Ex Hf H ∧ (∀ p ∈ M, Hf p = none ∧ ∃ o, H p = some o ∧ PenO K Hf o) ∧ Paired (ArgOk K M Hf) vs ss ∧ F ss R X ∧
  (∀ v d Hf' H', Exit K ⟨fun a => if a ∈ M then none else H a, Hf, M, []⟩ Hf' H' → Rp K Hf' v d → R d → Q v H') ∧
  (∀ C fs d Hf' H', Exit K ⟨fun a => if a ∈ M then none else H a, Hf, M, []⟩ Hf' H' → ExD K Hf' d fs → X C fs → E (.ref C) d H')
/-- exceptions as told over data reach the wish E -/
def EL (K : PySem.W.Frag) (b : Bs) (ρ : List Sl) (E : L2.St → XK) (X : Addr → List (Str × D) → Prop) : Prop := ∀ (Hf H : Hp) (σ : L2.St), Fm K b Hf H σ ρ →
  ∀ C fs d, ExD K Hf d fs → X C fs → E σ (.ref C) d H
theorem EL.no {K : PySem.W.Frag} {b : Bs} {ρ : List Sl} {E : L2.St → XK} : EL K b ρ E (fun _ _ => False) := fun _ _ _ _ _ _ _ _ z => False.elim z

section
variable {K : PySem.W.Frag} {b : Bs} {ρ : List Sl} {ta tb te : TE} {tt tu : TT} {tr : TA} {Q : D → Prop}
theorem DE.imp {Q' : D → Prop} (h : DE K b ρ te Q) (i : ∀ d, Q d → Q' d) : DE K b ρ te Q' := fun Hf H σ k fr q => h Hf H σ k fr fun v d Hf' H' e f r z => q v d Hf' H' e f r (i d z)
theorem DT.imp {R R' : Bool → Prop} (h : DT K b ρ tt R) (i : ∀ c, R c → R' c) : DT K b ρ tt R' := fun Hf H σ k fr q => h Hf H σ k fr fun c Hf' H' e f z => q c Hf' H' e f (i c z)
/-! names and constants -/
theorem de_var {i : Nat} {d : D} (h : ρ[i]? = some (.sh d)) (q : Q d) : DE K b ρ (tVar i) Q := fun Hf H σ k fr c => by
  have hl : i < σ.length := by rw [fr.len]; exact (List.getElem?_eq_some_iff.mp h).1
  have ho : σ[i]? = some σ[i] := List.getElem?_eq_getElem hl
  have z := fr.sl i _ _ ho h
  generalize σ[i] = o at ho z
  match o, z with
  | none, z => exact z.elim
  | some v, z => exact ⟨v, ho, c v d Hf H Up.refl fr z q⟩
theorem de_int {i : Int} (q : Q (.int i)) : DE K b ρ (tC (.int i)) Q := fun Hf H σ k fr c => c _ _ Hf H Up.refl fr (.int i) q
theorem de_bl {i : Bool} (q : Q (.bl i)) : DE K b ρ (tC (.bl i)) Q := fun Hf H σ k fr c => c _ _ Hf H Up.refl fr (.bl i) q
theorem de_str {i : Str} (q : Q (.str i)) : DE K b ρ (tC (.str i)) Q := fun Hf H σ k fr c => c _ _ Hf H Up.refl fr (.str i) q
theorem de_non (q : Q .non) : DE K b ρ (tC .non) Q := fun Hf H σ k fr c => c _ _ Hf H Up.refl fr .non q
theorem de_ty {n : String} (q : Q (.ty n)) : DE K b ρ (tC (.ty n)) Q := fun Hf H σ k fr c => c _ _ Hf H Up.refl fr (.ty n) q
theorem de_fn {a : Addr} (q : Q (.fn a)) : DE K b ρ (tC (.ref a)) Q := fun Hf H σ k fr c => c _ _ Hf H Up.refl fr (.fn a) q
/-! operators: what the rule asks of the values is told by data -/
theorem de_op {r : R2} (h : DE K b ρ ta fun x => DE K b ρ tb fun y => ∀ (Hf H : Hp) (σ : L2.St) (k : VK) (v u : V), Fm K b Hf H σ ρ → Rp K Hf v x → Rp K Hf u y →
    (∀ w d Hf' H', Up b Hf H Hf' H' → Fm K b Hf' H' σ ρ → Rp K Hf' w d → Q d → k w H') → r v u H k) : DE K b ρ (tOp r ta tb) Q := fun Hf H σ k fr c => by
  refine h Hf H σ _ fr fun v x Hf1 H1 e1 f1 r1 q1 => ?_
  refine q1 Hf1 H1 σ _ f1 fun u y Hf2 H2 e2 f2 r2 q2 => ?_
  exact q2 Hf2 H2 σ k v u f2 (r1.up e2.1) r2 fun w d Hf' H' e f r q => c w d Hf' H' ((e1.trans e2).trans e) f r q
theorem de_II {C : Int → Int → Prop} {g : Int → Int → Int} (h : DE K b ρ ta fun x => DE K b ρ tb fun y => ∃ i j, x = .int i ∧ y = .int j ∧ C i j ∧ Q (.int (g i j))) : DE K b ρ (tOp (rI C fun i j => .int (g i j)) ta tb) Q :=
  de_op (h.imp fun x hx => hx.imp fun y ⟨i, j, e1, e2, hc, q⟩ Hf H σ k v u f rv ru c => by
    subst e1; subst e2
    exact ⟨i, j, rv.int_inv, ru.int_inv, hc, c _ _ Hf H Up.refl f (.int _) q⟩)
theorem de_I0 {g : Int → Int → Int} (h : DE K b ρ ta fun x => DE K b ρ tb fun y => ∃ i j, x = .int i ∧ y = .int j ∧ Q (.int (g i j))) : DE K b ρ (tOp (rI0 fun i j => .int (g i j)) ta tb) Q :=
  de_op (h.imp fun x hx => hx.imp fun y ⟨i, j, e1, e2, q⟩ Hf H σ k v u f rv ru c => by
    subst e1; subst e2
    exact ⟨i, j, rv.int_inv, ru.int_inv, c _ _ Hf H Up.refl f (.int _) q⟩)
theorem de_B0 {g : Int → Int → Bool} (h : DE K b ρ ta fun x => DE K b ρ tb fun y => ∃ i j, x = .int i ∧ y = .int j ∧ Q (.bl (g i j))) : DE K b ρ (tOp (rI0 fun i j => .bl (g i j)) ta tb) Q :=
  de_op (h.imp fun x hx => hx.imp fun y ⟨i, j, e1, e2, q⟩ Hf H σ k v u f rv ru c => by
    subst e1; subst e2
    exact ⟨i, j, rv.int_inv, ru.int_inv, c _ _ Hf H Up.refl f (.bl _) q⟩)
theorem de_un {g : Int → Int} (h : DE K b ρ ta fun x => ∃ i, x = .int i ∧ Q (.int (g i))) : DE K b ρ (tUn (rU fun i => .int (g i)) ta) Q := fun Hf H σ k fr c => by
  refine h Hf H σ _ fr fun v x Hf1 H1 e1 f1 r1 ⟨i, e, q⟩ => ?_
  subst e
  exact ⟨i, r1.int_inv, c _ _ Hf1 H1 e1 f1 (.int _) q⟩
/-- == and != of any plain data -/
def eqD (x y : D) : Bool := PyData.eqv x.py y.py
def okD (x : D) : Bool := x.pl && x.nd && SeqAt.shaped x.py
theorem okD_un {x : D} (h : okD x = true) : x.pl = true ∧ x.nd = true ∧ SeqAt.shaped x.py = true := by
  unfold okD at h
  simp only [Bool.and_eq_true] at h
  exact ⟨h.1.1, h.1.2, h.2⟩
theorem de_eqD (h : DE K b ρ ta fun x => DE K b ρ tb fun y => okD x = true ∧ okD y = true ∧ Q (.bl (eqD x y))) : DE K b ρ (tOp (rEqD K) ta tb) Q :=
  de_op (h.imp fun x hx => hx.imp fun y ⟨o1, o2, q⟩ Hf H σ k v u f rv ru c => by
    obtain ⟨a1, a2, a3⟩ := okD_un o1
    obtain ⟨b1, b2, b3⟩ := okD_un o2
    exact ⟨x.py, y.py, (rv.up f.ex.exF).dp a1 a2, (ru.up f.ex.exF).dp b1 b2, a3, b3, c _ _ Hf H Up.refl f (.bl _) q⟩)
theorem de_neD (h : DE K b ρ ta fun x => DE K b ρ tb fun y => okD x = true ∧ okD y = true ∧ Q (.bl (!eqD x y))) : DE K b ρ (tOp (rNeD K) ta tb) Q :=
  de_op (h.imp fun x hx => hx.imp fun y ⟨o1, o2, q⟩ Hf H σ k v u f rv ru c => by
    obtain ⟨a1, a2, a3⟩ := okD_un o1
    obtain ⟨b1, b2, b3⟩ := okD_un o2
    exact ⟨x.py, y.py, (rv.up f.ex.exF).dp a1 a2, (ru.up f.ex.exF).dp b1 b2, a3, b3, c _ _ Hf H Up.refl f (.bl _) q⟩)
/-- x is None -/
def isN : D → Bool
  | .non => true
  | _ => false
theorem Rp.isN {H : Hp} {v : V} {d : D} (h : Rp K H v d) : decide (v = .non) = isN d := by cases h <;> rfl
theorem de_isN (h : DE K b ρ ta fun x => Q (.bl (isN x))) : DE K b ρ (tIsN ta) Q := fun Hf H σ k fr c => by
  refine h Hf H σ _ fr fun v x Hf1 H1 e1 f1 r1 q => ?_
  show k (.bl (decide (v = .non))) H1
  rw [r1.isN]
  exact c _ _ Hf1 H1 e1 f1 (.bl _) q
theorem de_notN (h : DE K b ρ ta fun x => Q (.bl (!isN x))) : DE K b ρ (tNotN ta) Q := fun Hf H σ k fr c => by
  refine h Hf H σ _ fr fun v x Hf1 H1 e1 f1 r1 q => ?_
  show k (.bl (!decide (v = .non))) H1
  rw [r1.isN]
  exact c _ _ Hf1 H1 e1 f1 (.bl _) q
/-! tests -/
theorem dt_test {R : Bool → Prop} (h : DE K b ρ te fun x => ∃ c, x = .bl c ∧ R c) : DT K b ρ (tTest te) R := fun Hf H σ k fr c => by
  refine h Hf H σ _ fr fun v x Hf1 H1 e1 f1 r1 ⟨c', e, q⟩ => ?_
  subst e
  exact ⟨c', r1.bl_inv, c c' Hf1 H1 e1 f1 q⟩
theorem dt_B {R : Bool → Prop} (h : DE K b ρ te fun x => ∃ c, x = .bl c ∧ R c) : DT K b ρ (tB te) R := dt_test h
theorem dt_and {R : Bool → Prop} (h : DT K b ρ tt fun c => if c = true then DT K b ρ tu R else R false) : DT K b ρ (tAnd tt tu) R := fun Hf H σ k fr c => by
  refine h Hf H σ _ fr fun c' Hf1 H1 e1 f1 q => ?_
  cases c' with
  | true => exact (iteT ((show DT K b ρ tu R from q) Hf1 H1 σ k f1 fun c2 Hf' H' e f z => c c2 Hf' H' (e1.trans e) f z))
  | false => exact iteF (c false Hf1 H1 e1 f1 q)
theorem dt_or {R : Bool → Prop} (h : DT K b ρ tt fun c => if c = true then R true else DT K b ρ tu R) : DT K b ρ (tOr tt tu) R := fun Hf H σ k fr c => by
  refine h Hf H σ _ fr fun c' Hf1 H1 e1 f1 q => ?_
  cases c' with
  | true => exact iteT (c true Hf1 H1 e1 f1 q)
  | false => exact iteF ((show DT K b ρ tu R from q) Hf1 H1 σ k f1 fun c2 Hf' H' e f z => c c2 Hf' H' (e1.trans e) f z)
theorem dt_not {R : Bool → Prop} (h : DT K b ρ tt fun c => R (!c)) : DT K b ρ (tNot tt) R := fun Hf H σ k fr c =>
  h Hf H σ _ fr fun c' Hf1 H1 e1 f1 q => c (!c') Hf1 H1 e1 f1 q
theorem de_andV (h : DE K b ρ ta fun x => ∃ c, x = .bl c ∧ if c = true then DE K b ρ tb Q else Q (.bl false)) : DE K b ρ (tAndV ta tb) Q := fun Hf H σ k fr c => by
  refine h Hf H σ _ fr fun v x Hf1 H1 e1 f1 r1 ⟨c', e, q⟩ => ?_
  subst e
  refine ⟨c', r1.bl_inv, ?_⟩
  cases c' with
  | true => exact iteT ((show DE K b ρ tb Q from q) Hf1 H1 σ k f1 fun v d Hf' H' e f r z => c v d Hf' H' (e1.trans e) f r z)
  | false => exact iteF (c _ _ Hf1 H1 e1 f1 (.bl _) q)
theorem de_orV (h : DE K b ρ ta fun x => ∃ c, x = .bl c ∧ if c = true then Q (.bl true) else DE K b ρ tb Q) : DE K b ρ (tOrV ta tb) Q := fun Hf H σ k fr c => by
  refine h Hf H σ _ fr fun v x Hf1 H1 e1 f1 r1 ⟨c', e, q⟩ => ?_
  subst e
  refine ⟨c', r1.bl_inv, ?_⟩
  cases c' with
  | true => exact iteT (c _ _ Hf1 H1 e1 f1 (.bl _) q)
  | false => exact iteF ((show DE K b ρ tb Q from q) Hf1 H1 σ k f1 fun v d Hf' H' e f r z => c v d Hf' H' (e1.trans e) f r z)
theorem de_notV (h : DE K b ρ ta fun x => ∃ c, x = .bl c ∧ Q (.bl (!c))) : DE K b ρ (tNotV ta) Q := fun Hf H σ k fr c => by
  refine h Hf H σ _ fr fun v x Hf1 H1 e1 f1 r1 ⟨c', e, q⟩ => ?_
  subst e
  exact ⟨c', r1.bl_inv, c _ _ Hf1 H1 e1 f1 (.bl _) q⟩
theorem de_ite (h : DT K b ρ tt fun c => if c = true then DE K b ρ ta Q else DE K b ρ tb Q) : DE K b ρ (tIf tt ta tb) Q := fun Hf H σ k fr c => by
  refine h Hf H σ _ fr fun c' Hf1 H1 e1 f1 q => ?_
  cases c' with
  | true => exact iteT ((show DE K b ρ ta Q from q) Hf1 H1 σ k f1 fun v d Hf' H' e f r z => c v d Hf' H' (e1.trans e) f r z)
  | false => exact iteF ((show DE K b ρ tb Q from q) Hf1 H1 σ k f1 fun v d Hf' H' e f r z => c v d Hf' H' (e1.trans e) f r z)
/-! arguments, displays -/
theorem da_nil {R : List D → Prop} (q : R []) : DA K b ρ tNil R := fun Hf H σ k fr c => c _ _ Hf H Up.refl fr .nil q
theorem da_cons {R : List D → Prop} (h : DE K b ρ te fun x => DA K b ρ tr fun l => R (x :: l)) : DA K b ρ (tCons te tr) R := fun Hf H σ k fr c => by
  refine h Hf H σ _ fr fun v x Hf1 H1 e1 f1 r1 q => ?_
  exact q Hf1 H1 σ _ f1 fun vs ds Hf2 H2 e2 f2 r2 z => c _ _ Hf2 H2 (e1.trans e2) f2 (.cons (r1.up e2.1) r2) z
theorem dc_nil {R : List Sl → Prop} (q : R []) : DC K b ρ tNil R := fun Hf H σ k fr c => c _ _ Hf H Up.refl fr .nil q
theorem dc_cons {R : List Sl → Prop} (h : DE K b ρ te fun x => DC K b ρ tr fun l => R (.sh x :: l)) : DC K b ρ (tCons te tr) R := fun Hf H σ k fr c => by
  refine h Hf H σ _ fr fun v x Hf1 H1 e1 f1 r1 q => ?_
  exact q Hf1 H1 σ _ f1 fun vs ds Hf2 H2 e2 f2 r2 z => c _ _ Hf2 H2 (e1.trans e2) f2 (.cons (show ArgOk K b.M Hf2 v (.sh x) from r1.up e2.1) r2) z
theorem dc_pen {R : List Sl → Prop} {i : Nat} (hi : ρ[i]? = some .pen) (h : DC K b ρ tr fun l => R (.pen :: l)) : DC K b ρ (tCons (tVar i) tr) R := fun Hf H σ k fr c => by
  have hl : i < σ.length := by rw [fr.len]; exact (List.getElem?_eq_some_iff.mp hi).1
  have ho : σ[i]? = some σ[i] := List.getElem?_eq_getElem hl
  have z := fr.sl i _ _ ho hi
  generalize σ[i] = o at ho z
  match o, z with
  | none, z => exact z.elim
  | some v, z =>
    refine ⟨v, ho, ?_⟩
    exact h Hf H σ _ fr fun vs ds Hf2 H2 e2 f2 r2 q => c _ _ Hf2 H2 e2 f2 (.cons (show ArgOk K b.M Hf2 v .pen from z) r2) q
theorem de_tup (h : DA K b ρ tr fun l => l.length ≤ 1000 ∧ Q (.tup l)) : DE K b ρ (tTup tr) Q := fun Hf H σ k fr c => by
  refine h Hf H σ _ fr fun vs ds Hf1 H1 e1 f1 r1 ⟨hz, q⟩ => ?_
  refine ⟨Nat.le_of_lt (small1000 (by rw [r1.len]; exact hz)), fun p hp => ?_⟩
  have n := f1.ex.exF.no hp
  exact c _ _ _ _ (e1.trans (Up.new hp n)) (f1.put hp) (Rp.tup (SqT.of upd_same) (RpA.up (Ex.new n) r1)) q
theorem dn_lst {R : List D → Prop} (h : DA K b ρ tr fun l => l.length ≤ 1000 ∧ R l) : DN K b ρ (tLst tr) R := fun Hf H σ k fr c => by
  refine h Hf H σ _ fr fun vs ds Hf1 H1 e1 f1 r1 ⟨hz, q⟩ => ?_
  exact ⟨Nat.le_of_lt (small1000 (by rw [r1.len]; exact hz)), fun p hp => c _ _ _ _ _ e1 f1 hp r1 q⟩
/-- a new list that is shared at once -/
theorem de_new (h : DN K b ρ te fun l => Q (.lst l)) : DE K b ρ te Q := fun Hf H σ k fr c => by
  refine h Hf H σ _ fr fun p xs ds Hf1 H1 e1 f1 hp r1 q => ?_
  have n := f1.ex.exF.no hp
  exact c _ _ _ _ (e1.trans (Up.new hp n)) (f1.put hp) (Rp.lst upd_same (RpA.up (Ex.new n) r1)) q
theorem de_lst (h : DA K b ρ tr fun l => l.length ≤ 1000 ∧ Q (.lst l)) : DE K b ρ (tLst tr) Q := de_new (dn_lst h)
/-! calls -/
theorem call_core {F : DF} {E : L2.St → XK} {X : Addr → List (Str × D) → Prop} {Hf1 H1 : Hp} {σ : L2.St} {vs : List V} {ss : List Sl} {k : VK} (hE : EL K b ρ E X) (f1 : Fm K b Hf1 H1 σ ρ) (r1 : Paired (ArgOk K b.M Hf1) vs ss) (q : F ss Q X)
    (c : ∀ v d Hf' H', Up b Hf1 H1 Hf' H' → Fm K b Hf' H' σ ρ → Rp K Hf' v d → Q d → k v H') : spD K F vs H1 k (E σ) := by
  have x1 := f1.ex
  have back : ∀ Hf' H', Exit K ⟨fun a => if a ∈ b.M then none else H1 a, Hf1, b.M, []⟩ Hf' H' → Fm K b Hf' H' σ ρ := fun Hf' H' y => by
    have out : ∀ a o, b.B a = some o → a ∉ b.M := fun a o e z => by
      obtain ⟨_, z2, _⟩ := x1.pens a z
      rw [z2] at e; cases e
    refine f1.step { exF := y.exF, ex0 := x1.ex0.trans y.ex0, exB := fun a o e => y.exB a o (by show (if a ∈ b.M then none else H1 a) = some o; rw [if_neg (out a o e)]; exact x1.exB a o e), frz := fun a h1 h2 => ?_, pens := fun p hp => ?_, tabs := fun p hp => ?_ } y.ex0 fun a xs h1 h2 h3 h4 => ?_
    · have h3 := x1.frz a h1 h2
      cases hb : b.B a with
      | none => exact (h1 hb).elim
      | some o =>
        refine y.frz a ?_ h3
        show (if a ∈ b.M then none else H1 a) ≠ none
        rw [if_neg (out a o hb), x1.exB a o hb]
        exact fun z => nomatch z
    · obtain ⟨z1, z2, z3⟩ := y.pens p hp
      exact ⟨z1, (x1.pens p hp).2.1, z3⟩
    · obtain ⟨z1, z2, z3, z4⟩ := x1.tabs p hp
      have z4' := z4
      obtain ⟨ps, z5, _⟩ := z4
      have e : (if p.1 ∈ b.M then none else H1 p.1) = some (.tbl ps) := by rw [if_neg z3]; exact z5
      exact ⟨y.frz p.1 (by show (if p.1 ∈ b.M then none else H1 p.1) ≠ none; rw [e]; exact fun z => nomatch z) z1, z2, z3, z4'.up y.ex0 ((y.exB p.1 _ e).trans z5.symm)⟩
    · have e : (if a ∈ b.M then none else H1 a) = some (.lst xs) := by rw [if_neg h4]; exact h1
      exact ⟨y.frz a (by show (if a ∈ b.M then none else H1 a) ≠ none; rw [e]; exact fun z => nomatch z) h2, y.exB a _ e⟩
  refine ⟨Hf1, b.M, ss, Q, X, x1.exF, fun p hp => ⟨(x1.pens p hp).1, (x1.pens p hp).2.2⟩, r1, q, fun v d Hf' H' y r z => ?_, fun C fs d Hf' H' y hx z => ?_⟩
  · refine c v d Hf' H' ⟨y.ex0, fun a o h n => ?_⟩ (back Hf' H' y) r z
    have e : (if a ∈ b.M then none else H1 a) = some o := by rw [if_neg (fun z => n (Bs.mtM z))]; exact h
    exact ⟨y.exB a o e, y.frz a (by show (if a ∈ b.M then none else H1 a) ≠ none; rw [e]; exact fun z => nomatch z)⟩
  · exact hE Hf' H' σ (back Hf' H' y) C fs d hx z
theorem de_call {F : DF} {E : L2.St → XK} {X : Addr → List (Str × D) → Prop} (hE : EL K b ρ E X) (h : DC K b ρ tr fun ss => F ss Q X) : DE K b ρ (tCallG (fun _ => spD K F) [] E tr) Q := fun Hf H σ k fr c => by
  refine h Hf H σ _ fr fun vs ss Hf1 H1 e1 f1 r1 q => ?_
  exact call_core hE f1 r1 q fun v d Hf' H' e f r z => c v d Hf' H' (e1.trans e) f r z
/-- a built-in that is a function of data -/
theorem de_cb {r : List V → Hp → VK → Prop} (h : DA K b ρ tr fun ds => ∀ (Hf H : Hp) (σ : L2.St) (k : VK) (vs : List V), Fm K b Hf H σ ρ → RpA K Hf vs ds →
    (∀ w d Hf' H', Up b Hf H Hf' H' → Fm K b Hf' H' σ ρ → Rp K Hf' w d → Q d → k w H') → r vs H k) : DE K b ρ (tCB r tr) Q := fun Hf H σ k fr c => by
  refine h Hf H σ _ fr fun vs ds Hf1 H1 e1 f1 r1 q => ?_
  exact q Hf1 H1 σ k vs f1 r1 fun w d Hf' H' e f r z => c w d Hf' H' (e1.trans e) f r z
theorem de_cb1 {r : List V → Hp → VK → Prop} (h : DE K b ρ ta fun x => ∀ (Hf H : Hp) (σ : L2.St) (k : VK) (v : V), Fm K b Hf H σ ρ → Rp K Hf v x →
    (∀ w d Hf' H', Up b Hf H Hf' H' → Fm K b Hf' H' σ ρ → Rp K Hf' w d → Q d → k w H') → r [v] H k) : DE K b ρ (tCB r (tCons ta tNil)) Q :=
  de_cb (da_cons (h.imp fun x hx => da_nil fun Hf H σ k vs f r c => by
    cases r with
    | cons r1 r2 =>
      cases r2
      exact hx Hf H σ k _ f r1 c))

/-! ### statements -/
variable {nx bk ct : List Sl → Prop} {rt : D → Prop} {ts tw : TS}
theorem ds_next (q : nx ρ) : DS K b ρ tNext nx rt bk ct := fun Hf H σ D fr n r bk ct => n ρ σ Hf H (Ex.refl _) fr q
theorem ds_break (q : bk ρ) : DS K b ρ tBreak nx rt bk ct := fun Hf H σ D fr n r bk ct => bk ρ σ Hf H (Ex.refl _) fr q
theorem ds_cont (q : ct ρ) : DS K b ρ tCont nx rt bk ct := fun Hf H σ D fr n r bk ct => ct ρ σ Hf H (Ex.refl _) fr q
theorem ds_seq (h : DS K b ρ ts (fun ρ' => DS K b ρ' tw nx rt bk ct) rt bk ct) : DS K b ρ (tSeq ts tw) nx rt bk ct := fun Hf H σ D fr n r bk ct =>
  h Hf H σ { D with nx := tw D } fr (fun ρ' σ' Hf' H' e f q => q Hf' H' σ' D f (fun ρ2 σ2 Hf2 H2 e2 f2 q2 => n ρ2 σ2 Hf2 H2 (e.trans e2) f2 q2) (fun v d Hf2 H2 e2 x2 r2 q2 => r v d Hf2 H2 (e.trans e2) x2 r2 q2)
    (fun ρ2 σ2 Hf2 H2 e2 f2 q2 => bk ρ2 σ2 Hf2 H2 (e.trans e2) f2 q2) (fun ρ2 σ2 Hf2 H2 e2 f2 q2 => ct ρ2 σ2 Hf2 H2 (e.trans e2) f2 q2)) r bk ct
theorem ds_asg {i : Nat} (h : DE K b ρ te fun d => nx (ρ.set i (.sh d))) : DS K b ρ (tAsg te (gName i)) nx rt bk ct := fun Hf H σ D fr n r bk ct =>
  h Hf H σ _ fr fun v d Hf' H' e f rp q => n _ _ Hf' H' e.1 (f.set rp) q
/-- the name keeps a list of its own -/
theorem ds_own {i : Nat} (h : DN K b ρ te fun l => nx (ρ.set i (.ow l))) : DS K b ρ (tAsg te (gName i)) nx rt bk ct := fun Hf H σ D fr n r bk ct =>
  h Hf H σ _ fr fun p xs ds Hf' H' e f hp rp q => n _ _ Hf' _ e.1 (f.own hp rp) q
theorem ds_share {i : Nat} {l : List D} (hi : ρ[i]? = some (.ow l)) (h : DS K b (ρ.set i (.sh (.lst l))) ts nx rt bk ct) : DS K b ρ ts nx rt bk ct := fun Hf H σ D fr n r bk ct => by
  obtain ⟨Hf1, e1, f1⟩ := fr.share hi
  exact h Hf1 H σ D f1 (fun ρ2 σ2 Hf2 H2 e2 f2 q2 => n ρ2 σ2 Hf2 H2 (e1.trans e2) f2 q2) (fun v d Hf2 H2 e2 x2 r2 q2 => r v d Hf2 H2 (e1.trans e2) x2 r2 q2)
    (fun ρ2 σ2 Hf2 H2 e2 f2 q2 => bk ρ2 σ2 Hf2 H2 (e1.trans e2) f2 q2) (fun ρ2 σ2 Hf2 H2 e2 f2 q2 => ct ρ2 σ2 Hf2 H2 (e1.trans e2) f2 q2)
theorem ds_if (h : DT K b ρ tt fun c => if c = true then DS K b ρ ts nx rt bk ct else DS K b ρ tw nx rt bk ct) : DS K b ρ (tIfS tt ts tw) nx rt bk ct := fun Hf H σ D fr n r bk ct => by
  refine h Hf H σ _ fr fun c Hf1 H1 e1 f1 q => ?_
  have go : ∀ t, DS K b ρ t nx rt _ _ → t D σ H1 := fun t ht => ht Hf1 H1 σ D f1 (fun ρ2 σ2 Hf2 H2 e2 f2 q2 => n ρ2 σ2 Hf2 H2 (e1.1.trans e2) f2 q2) (fun v d Hf2 H2 e2 x2 r2 q2 => r v d Hf2 H2 (e1.1.trans e2) x2 r2 q2)
    (fun ρ2 σ2 Hf2 H2 e2 f2 q2 => bk ρ2 σ2 Hf2 H2 (e1.1.trans e2) f2 q2) (fun ρ2 σ2 Hf2 H2 e2 f2 q2 => ct ρ2 σ2 Hf2 H2 (e1.1.trans e2) f2 q2)
  cases c with
  | true => exact iteT (go ts q)
  | false => exact iteF (go tw q)
theorem ds_ret (h : DE K b ρ te rt) : DS K b ρ (tRet te) nx rt bk ct := fun Hf H σ D fr n r bk ct => h Hf H σ _ fr fun v d Hf' H' e f rp q => r v d Hf' H' e.1 f.ex rp q
theorem ds_retN (q : rt .non) : DS K b ρ tRetN nx rt bk ct := fun Hf H σ D fr n r bk ct => r _ _ Hf H (Ex.refl _) fr.ex .non q
theorem ds_drop (h : DE K b ρ te fun _ => nx ρ) : DS K b ρ (tDrop te) nx rt bk ct := fun Hf H σ D fr n r bk ct => h Hf H σ _ fr fun v d Hf' H' e f rp q => n ρ σ Hf' H' e.1 f q
theorem own_at {Hf H : Hp} {σ : L2.St} (fr : Fm K b Hf H σ ρ) {i : Nat} {l : List D} (hi : ρ[i]? = some (.ow l)) : ∃ a xs, σ[i]? = some (some (.ref a)) ∧ Hf a = none ∧ H a = some (.lst xs) ∧ RpA K Hf xs l := by
  have hl : i < σ.length := by rw [fr.len]; exact (List.getElem?_eq_some_iff.mp hi).1
  have ho : σ[i]? = some σ[i] := List.getElem?_eq_getElem hl
  have z := fr.sl i _ _ ho hi
  generalize σ[i] = o at ho z
  match o, z with
  | none, z => exact z.elim
  | some v, z =>
    obtain ⟨a, xs, rfl, h1, h2, h3, _⟩ := z
    exact ⟨a, xs, ho, h1, h2, h3⟩
/-- found.append(e), found a list of one's own -/
theorem ds_app {i : Nat} {l : List D} (hi : ρ[i]? = some (.ow l)) (h : DE K b ρ te fun d => l.length < 16000 ∧ nx (ρ.set i (.ow (l ++ [d])))) : DS K b ρ (tDrop (tBM K "list" rAppend (tVar i) (tCons te tNil))) nx rt bk ct := fun Hf H σ D fr n r bk ct => by
  obtain ⟨a, xs, ho, h1, h2, h3⟩ := own_at fr hi
  refine ⟨_, ho, Or.inl ⟨rfl, xs, SqL.of h2⟩, ?_⟩
  refine h Hf H σ _ fr fun v d Hf' H' e f rp q => ?_
  obtain ⟨a', ys, ho', k1, k2, k3⟩ := own_at f hi
  rw [ho] at ho'
  cases ho'
  refine ⟨a, ys, v, rfl, rfl, k2, Nat.lt_of_lt_of_le (by rw [k3.len]; exact q.1) (by decide), ?_⟩
  exact n _ σ Hf' _ e.1 (f.chg hi ho (k3.app (.cons rp .nil))) q.2
/-- a list of one's own, read: its length -/
theorem de_var_own {i : Nat} {l : List D} (hi : ρ[i]? = some (.ow l)) {r : List V → Hp → VK → Prop} (h : ∀ (Hf H : Hp) (σ : L2.St) (k : VK) (a : Addr) (xs : List V), Fm K b Hf H σ ρ → H a = some (.lst xs) → RpA K Hf xs l →
    (∀ w d Hf' H', Up b Hf H Hf' H' → Fm K b Hf' H' σ ρ → Rp K Hf' w d → Q d → k w H') → r [.ref a] H k) : DE K b ρ (tCB r (tCons (tVar i) tNil)) Q := fun Hf H σ k fr c => by
  obtain ⟨a, xs, ho, h1, h2, h3⟩ := own_at fr hi
  exact ⟨_, ho, h Hf H σ k a xs fr h2 h3 c⟩
end
end G

set_option Elab.async false
set_option linter.all false
set_option maxRecDepth 100000
set_option maxHeartbeats 4000000
/-! DMore: a def by its body over data; repr, isinstance, fields of errors, places, lengths, loops. -/
namespace G
open PySem PySem.Spec PyProof.Rows L2
theorem paired_at {α β : Type} {F : α → β → Prop} : ∀ {xs : List α} {ys : List β} {i : Nat} {x : α} {y : β}, Paired F xs ys → xs[i]? = some x → ys[i]? = some y → F x y
  | _, _, _, _, _, .nil, h, _ => by simp at h
  | _, _, 0, _, _, .cons q _, h, h' => by simp at h h'; subst h; subst h'; exact q
  | _, _, i + 1, _, _, .cons _ r, h, h' => paired_at (i := i) r (by simpa using h) (by simpa using h')
/-! ### a def by its body -/
/-- pins that are as told, then the promise over data that hangs on them -/
def spP (K : PySem.W.Frag) (Pp : Pins → Prop) (F : Pins → DF) : Sq := fun pl vs H Q E => Pp pl ∧ spD K (F pl) vs H Q E
section
variable {P : Program} {w : World} {K : PySem.W.Frag} {mg : Str → Option Value} {base : Heap} {N ps : List Str} {x qual : Str} {st : Stmt} {f : Addr} {fd : FuncData} {k : Nat} {c : Bool}
theorem start_ok {Hf H : Hp} {M : List Addr} {vs : List V} {ss : List Sl} {n : Nat} (hl : vs.length = ps.length) (hn : N.length = n) (hx : Ex Hf H) (hp : ∀ p ∈ M, Hf p = none ∧ ∃ o, H p = some o ∧ PenO K Hf o) (ha : Paired (ArgOk K M Hf) vs ss) :
    Fm K ⟨fun a => if a ∈ M then none else H a, Hf, M, []⟩ Hf H (start N vs) (ss ++ List.replicate (N.length - ps.length) .no) := by
  have hvs := ha.length
  have own : ∀ i a, ¬ Own (start N vs) (ss ++ List.replicate (N.length - ps.length) .no) i a := fun i a ⟨⟨ds, h1⟩, h2⟩ => by
    by_cases z : i < ss.length
    · rw [List.getElem?_append_left z] at h1
      have hv : i < vs.length := by omega
      have q := paired_at ha (List.getElem?_eq_getElem hv) h1
      exact q
    · rw [List.getElem?_append_right (by omega), List.getElem?_replicate] at h1
      split at h1 <;> cases h1
  refine { ex := { exF := hx, ex0 := Ex.refl _, exB := fun a o e => ?_, frz := fun a _ h => h, pens := fun p hm => ⟨(hp p hm).1, if_pos hm, (hp p hm).2⟩, tabs := fun p hm => (List.not_mem_nil hm).elim }, len := ?_, sl := fun i o s h1 h2 => ?_, mine := fun i a z => (own i a z).elim, sep := fun i j a z _ => (own i a z).elim }
  · have e' : (if a ∈ M then none else H a) = some o := e
    by_cases z : a ∈ M
    · rw [if_pos z] at e'; cases e'
    · rw [if_neg z] at e'; exact e'
  · unfold L2.start
    simp
    omega
  · unfold L2.start at h1
    by_cases z : i < vs.length
    · rw [List.getElem?_append_left (by simpa using z), List.getElem?_map, List.getElem?_eq_getElem z] at h1
      simp at h1
      subst h1
      rw [List.getElem?_append_left (by omega)] at h2
      have q := paired_at ha (List.getElem?_eq_getElem z) h2
      match s, q with
      | .sh d, q => exact q
      | .pen, q => exact q
    · rw [List.getElem?_append_right (by omega), List.getElem?_replicate] at h2
      split at h2
      · cases h2
        match o with
        | none => trivial
        | some _ => trivial
      · cases h2
theorem fn_dataP {Pp : Pins → Prop} {Fd : Pins → DF} (F : Fun K x qual st f fd) (S : FnScope N ps (defScope st)) (len : ∀ pl ss R X, Fd pl ss R X → ss.length = ps.length)
    (body : ∀ (cdv : Value) (A : Around) (outer : List Env) (s : Shared) (H : Hp) (E : XK) (pl : Pins), Rm c k (A.deeper (envOfC qual (defScope st) s.heap.objs.size f cdv)) → Pp pl →
      ∃ t, PSs (cxG P w K mg base N qual (defScope st) f cdv A outer s H E c pl) (defBody st) t ∧ ∀ b ss R X, Fd pl ss R X → (∀ ρ, EL K b ρ (fun _ => E) X) →
        DS K b (ss ++ List.replicate (N.length - ps.length) .no) t (fun _ => R .non) R (fun _ => False) (fun _ => False)) :
    FnG P w K mg base c (k + 1) f fd ps (spP K Pp Fd) := by
  have hlen : ∀ pl vs H Q E, spP K Pp Fd pl vs H Q E → vs.length = ps.length := fun pl vs H Q E h => by
    obtain ⟨_, Hf, M, ss, R, X, h1, h2, h3, h4, _⟩ := h
    rw [h3.length]
    exact len pl ss R X h4
  refine fn_go F S hlen fun cdv A outer s H vs Q E pl hr hsp => ?_
  have hl := hlen _ _ _ _ _ hsp
  obtain ⟨hpp, Hf, M, ss, R, X, h1, h2, h3, h4, h5, h6⟩ := hsp
  obtain ⟨t, ht, hd⟩ := body cdv A outer s H E pl hr hpp
  refine ⟨t, ht, ?_⟩
  refine hd ⟨fun a => if a ∈ M then none else H a, Hf, M, []⟩ ss R X h4 (fun ρ Hf' H' σ' fr C fs d e1 e2 => h6 C fs d Hf' H' fr.ex e1 e2) Hf H (start N vs) _ (start_ok hl rfl h1 h2 h3)
    (fun ρ' σ' Hf' H' e fr q => h5 .non .non Hf' H' fr.ex .non q) (fun v d Hf' H' e x r q => h5 v d Hf' H' x r q) (fun _ _ _ _ _ _ z => z.elim) (fun _ _ _ _ _ _ z => z.elim)
theorem fn_data {Fd : DF} (F : Fun K x qual st f fd) (S : FnScope N ps (defScope st)) (len : ∀ ss R X, Fd ss R X → ss.length = ps.length)
    (body : ∀ (cdv : Value) (A : Around) (outer : List Env) (s : Shared) (H : Hp) (E : XK) (pl : Pins), Rm c k (A.deeper (envOfC qual (defScope st) s.heap.objs.size f cdv)) →
      ∃ t, PSs (cxG P w K mg base N qual (defScope st) f cdv A outer s H E c pl) (defBody st) t ∧ ∀ b ss R X, Fd ss R X → (∀ ρ, EL K b ρ (fun _ => E) X) →
        DS K b (ss ++ List.replicate (N.length - ps.length) .no) t (fun _ => R .non) R (fun _ => False) (fun _ => False)) :
    FnG P w K mg base c (k + 1) f fd ps (fun _ => spD K Fd) := by
  have G : FnG P w K mg base c (k + 1) f fd ps (spP K (fun _ => True) (fun _ => Fd)) := fn_dataP F S (fun _ => len) fun cdv A outer s H E pl hr _ => body cdv A outer s H E pl hr
  exact { len := fun pl vs H Q E h => G.len pl vs H Q E ⟨trivial, h⟩, run := fun A o s H a us vs Q E pl hr hp e0 hb r h => G.run A o s H a us vs Q E pl hr hp e0 hb r ⟨trivial, h⟩ }
end
/-- a call with pins -/
theorem de_callP {K : PySem.W.Frag} {b : Bs} {ρ : List Sl} {tr : TA} {Q : D → Prop} {Pp : Pins → Prop} {F : Pins → DF} {pl : Pins} {E : L2.St → XK} {X : Addr → List (Str × D) → Prop} (hE : EL K b ρ E X) (hp : Pp pl) (h : DC K b ρ tr fun ss => F pl ss Q X) : DE K b ρ (tCallG (spP K Pp F) pl E tr) Q :=
  fun Hf H σ k fr c => by
    refine h Hf H σ _ fr fun vs ss Hf1 H1 e1 f1 r1 q => ?_
    exact (show spP K Pp F pl vs H1 k (E σ) from ⟨hp, call_core hE f1 r1 q fun v d Hf' H' e f r z => c v d Hf' H' (e1.trans e) f r z⟩)
/-- a def that is handed the error which a suite holds -/
def spX (sp : Sq) (a : Addr) (cls : Value) (d : Option Addr) : Sp := fun vs H Q E => ∀ oe : Obj, Zc cls d oe → (∃ fs, oe.data = .fields fs) → sp [(a, oe)] vs H Q E
section
variable {X : Cx} {c : Bool} {k : Nat} {f a : Addr} {fd : FuncData} {ps : List Str} {sp : Sq} {E : L2.St → XK} {x : Str} {q pos : Pos} {e : Expr} {es : List Expr} {t : TA} {oe : Obj} {cls : Value} {d : Option Addr}
theorem pe_goX (F : FnG X.prog X.w X.K X.mg X.base c k f fd ps sp) (hz : Zc cls d oe) (hf : ∃ fs, oe.data = .fields fs) (hr : Rm c k X.A) (hp : (a, oe) ∈ X.pn) (hg : Gl X x) (hm : X.mg x = some (.ref f)) (hk : PySem.W.keepIn X.K (.ref f) = true) (hb : Binds X.K fd ps []) (hx : Lets X E)
    (ha : PA X (e :: es) t) (hdb : (x == ("__debug__" : Str)) = false := by decide) (he : starEach (e :: es) X.env = (false, eval e X.env) :: starEach es X.env := by rfl) (hpl : (backTo pos (starEach es X.env)).any (·.1) = false := by rfl) :
    PE X (.Call (.Name x q) (e :: es) [] pos) (tCallG (fun _ => spX sp a cls d) [] E t) := by
  refine ⟨fun pins s σ H Q I h => ?_⟩
  refine wpAny_Call_Name_kw (ld_glob I hg hm ?_ hdb)
  refine PySem.W.callWith_K (h₀ := X.base) I.ok.mod.kin hk (thn (ha.run pos pins s σ H _ I h) ?_) he hpl
  intro us s1 z
  obtain ⟨vs, H1, I1, r, q⟩ := z
  exact ⟨I1.kIn, run_go (pl := [(a, oe)]) F hr (fun p h => by rw [List.mem_singleton.mp h]; exact hp) hb hx I1 r (q oe hz hf)⟩
end
theorem de_callX {K : PySem.W.Frag} {b : Bs} {ρ : List Sl} {tr : TA} {Q : D → Prop} {Pp : Pins → Prop} {F : Pins → DF} {a : Addr} {cls : Value} {d : Option Addr} {E : L2.St → XK} {X : Addr → List (Str × D) → Prop} (hE : EL K b ρ E X)
    (h : DC K b ρ tr fun ss => ∀ oe : Obj, Zc cls d oe → (∃ fs, oe.data = .fields fs) → Pp [(a, oe)] ∧ F [(a, oe)] ss Q X) : DE K b ρ (tCallG (fun _ => spX (spP K Pp F) a cls d) [] E tr) Q :=
  fun Hf H σ k fr c => by
    refine h Hf H σ _ fr fun vs ss Hf1 H1 e1 f1 r1 q => ?_
    refine (show spX (spP K Pp F) a cls d vs H1 k (E σ) from fun oe hz hf => ?_)
    obtain ⟨hp, q⟩ := q oe hz hf
    exact ⟨hp, call_core hE f1 r1 q fun v d Hf' H' e f r z => c v d Hf' H' (e1.trans e) f r z⟩
end G

set_option Elab.async false
set_option linter.all false
set_option maxRecDepth 100000
set_option maxHeartbeats 4000000
/-! DOps: operators and built-ins over data; loops. -/
namespace G
open PySem PySem.Spec PyProof.Rows L2
section
variable {K : PySem.W.Frag} {b : Bs} {ρ : List Sl} {ta tb te tc : TE} {tt tu : TT} {tr : TA} {Q : D → Prop} {H Hf : Hp}
theorem small_line {n : Nat} (h : n ≤ 100000) : n ≤ sizeLine := Nat.le_trans h (by decide)
/-! ### places -/
theorem RpA.atI {vs : List V} {ds : List D} {i : Int} {d : D} (r : RpA K H vs ds) (h : L2.atI ds i = some d) : ∃ v, L2.atI vs i = some v ∧ Rp K H v d := by
  unfold L2.atI at h ⊢
  rw [r.len]
  cases e : ixN ds.length i with
  | none => rw [e] at h; cases h
  | some j =>
    rw [e] at h
    exact r.at (i := j) h
def atD : D → Int → Option D
  | .tup l, i => L2.atI l i
  | .lst l, i => L2.atI l i
  | .str z, i => if z.length ≤ 100000 then (L2.atI z.cps.toList i).map fun c => .str ⟨#[c]⟩ else none
  | _, _ => none
theorem de_ix (h : DE K b ρ ta fun x => DE K b ρ tb fun y => ∃ i d, y = .int i ∧ atD x i = some d ∧ Q d) : DE K b ρ (tOp (rIx K) ta tb) Q :=
  de_op (h.imp fun x hx => hx.imp fun y ⟨i, d, e, ha, q⟩ Hf H σ k v u f rv ru c => by
    subst e
    have eu := ru.int_inv
    subst eu
    cases rv with
    | tup h1 h2 =>
      obtain ⟨v', e1, r1⟩ := h2.atI (i := i) ha
      exact Or.inr (Or.inl ⟨_, _, i, v', rfl, rfl, f.ex.exF.st h1, e1, c _ _ Hf H Up.refl f r1 q⟩)
    | lst h1 h2 =>
      obtain ⟨v', e1, r1⟩ := h2.atI (i := i) ha
      exact Or.inl ⟨_, _, i, v', rfl, rfl, SqL.of (f.ex.exF _ _ h1), e1, c _ _ Hf H Up.refl f r1 q⟩
    | str z =>
      have ha' : (if z.length ≤ 100000 then (L2.atI z.cps.toList i).map fun c => D.str ⟨#[c]⟩ else none) = some d := ha
      by_cases hz : z.length ≤ 100000
      · rw [if_pos hz] at ha'
        cases e2 : L2.atI z.cps.toList i with
        | none => rw [e2] at ha'; cases ha'
        | some c' =>
          rw [e2] at ha'
          cases ha'
          exact Or.inr (Or.inr ⟨z, i, c', rfl, rfl, small_line hz, e2, c _ _ Hf H Up.refl f (.str _) q⟩)
      · rw [if_neg hz] at ha'; cases ha'
    | non => cases ha
    | bl _ => cases ha
    | int _ => cases ha
    | ty _ => cases ha
    | fn _ => cases ha
    | dic _ _ _ => cases ha
    | obj _ _ _ => cases ha
    | exc _ _ _ => cases ha
    | exc0 _ _ => cases ha)
/-! ### len -/
def lenD : D → Option Nat
  | .tup l => some l.length
  | .lst l => some l.length
  | .str z => if z.length ≤ 100000 then some z.length else none
  | _ => none
def rLenV (K : PySem.W.Frag) : List V → Hp → VK → Prop := fun xs H Q => ∃ x n, xs = [x] ∧ LenV K x H n ∧ Q (.int n) H
theorem call_lenV {X : Cx} : CallR X (.builtin "len") (rLenV X.K) := call_len
theorem de_len (h : DE K b ρ ta fun x => ∃ n : Nat, lenD x = some n ∧ Q (.int n)) : DE K b ρ (tCB (rLenV K) (tCons ta tNil)) Q :=
  de_cb1 (h.imp fun x ⟨n, ha, q⟩ Hf H σ k v f rv c => by
    cases rv with
    | tup h1 h2 =>
      cases ha
      refine ⟨_, _, rfl, Or.inr ⟨_, f.ex.exF.st h1, rfl⟩, ?_⟩
      rw [h2.len]
      exact c _ _ Hf H Up.refl f (.int _) q
    | lst h1 h2 =>
      cases ha
      refine ⟨_, _, rfl, Or.inl ⟨_, SqL.of (f.ex.exF _ _ h1), rfl⟩, ?_⟩
      rw [h2.len]
      exact c _ _ Hf H Up.refl f (.int _) q
    | str z =>
      have ha' : (if z.length ≤ 100000 then some z.length else none) = some n := ha
      by_cases hz : z.length ≤ 100000
      · rw [if_pos hz] at ha'
        cases ha'
        exact ⟨_, _, rfl, ⟨small_line hz, rfl⟩, c _ _ Hf H Up.refl f (.int _) q⟩
      · rw [if_neg hz] at ha'; cases ha'
    | non => cases ha
    | bl _ => cases ha
    | int _ => cases ha
    | ty _ => cases ha
    | fn _ => cases ha
    | dic _ _ _ => cases ha
    | obj _ _ _ => cases ha
    | exc _ _ _ => cases ha
    | exc0 _ _ => cases ha)
theorem de_len_own {i : Nat} {l : List D} (hi : ρ[i]? = some (.ow l)) (q : Q (.int l.length)) : DE K b ρ (tCB (rLenV K) (tCons (tVar i) tNil)) Q :=
  de_var_own hi fun Hf H σ k a xs f h1 h2 c => by
    refine ⟨_, _, rfl, Or.inl ⟨_, SqL.of h1, rfl⟩, ?_⟩
    rw [h2.len]
    exact c _ _ Hf H Up.refl f (.int _) q
/-! ### int, abs, max, min -/
def rInt1 : List V → Hp → VK → Prop := fun xs H Q => (∃ i, xs = [.int i] ∧ Q (.int i) H) ∨ ∃ k, xs = [.bl k] ∧ Q (.int (if k then 1 else 0)) H
theorem call_intV {X : Cx} : CallR X (.type "int") rInt1 := call_int1
theorem de_intc (h : DE K b ρ ta fun x => (∃ i, x = .int i ∧ Q (.int i)) ∨ ∃ c : Bool, x = .bl c ∧ Q (.int (if c then 1 else 0))) : DE K b ρ (tCB rInt1 (tCons ta tNil)) Q :=
  de_cb1 (h.imp fun x hx Hf H σ k v f rv c => by
    cases hx with
    | inl hx =>
      obtain ⟨i, e, q⟩ := hx
      subst e
      have e := rv.int_inv
      subst e
      exact Or.inl ⟨i, rfl, c _ _ Hf H Up.refl f (.int _) q⟩
    | inr hx =>
      obtain ⟨i, e, q⟩ := hx
      subst e
      have e := rv.bl_inv
      subst e
      exact Or.inr ⟨i, rfl, c _ _ Hf H Up.refl f (.int _) q⟩)
def rAbs : List V → Hp → VK → Prop := fun xs H Q => ∃ i, xs = [.int i] ∧ Q (.int (if i < 0 then -i else i)) H
theorem call_absV {X : Cx} : CallR X (.builtin "abs") rAbs := call_abs
theorem de_abs (h : DE K b ρ ta fun x => ∃ i, x = .int i ∧ Q (.int (if i < 0 then -i else i))) : DE K b ρ (tCB rAbs (tCons ta tNil)) Q :=
  de_cb1 (h.imp fun x ⟨i, e, q⟩ Hf H σ k v f rv c => by
    subst e
    have e := rv.int_inv
    subst e
    exact ⟨i, rfl, c _ _ Hf H Up.refl f (.int _) q⟩)
/-! ### lists put together -/
theorem dn_cat {R : List D → Prop} (h : DE K b ρ ta fun x => DE K b ρ tb fun y => ∃ l m, x = .lst l ∧ y = .lst m ∧ l.length + m.length ≤ 16000 ∧ R (l ++ m)) : DN K b ρ (tOp rCat ta tb) R := fun Hf H σ k fr c => by
  refine h Hf H σ _ fr fun v x Hf1 H1 e1 f1 r1 q1 => ?_
  refine q1 Hf1 H1 σ _ f1 fun u y Hf2 H2 e2 f2 r2 ⟨l, m, ex, ey, hz, q⟩ => ?_
  subst ex
  subst ey
  cases r1 with
  | lst h1 a1 =>
    cases r2 with
    | lst h2 a2 =>
      refine ⟨_, _, _, _, rfl, rfl, f2.ex.exF _ _ (e2.1 _ _ h1), f2.ex.exF _ _ h2, small_line (by rw [a1.len, a2.len]; omega), fun p hp => ?_⟩
      exact c p _ _ Hf2 H2 (e1.trans e2) f2 hp ((a1.up e2.1).app a2) q
/-- the first one one's own -/
theorem dn_cat_own {R : List D → Prop} {i : Nat} {l : List D} (hi : ρ[i]? = some (.ow l)) (h : DE K b ρ tb fun y => ∃ m, y = .lst m ∧ l.length + m.length ≤ 16000 ∧ R (l ++ m)) : DN K b ρ (tOp rCat (tVar i) tb) R := fun Hf H σ k fr c => by
  obtain ⟨a, xs, ho, h1, h2, h3⟩ := own_at fr hi
  refine ⟨_, ho, ?_⟩
  refine h Hf H σ _ fr fun u y Hf2 H2 e2 f2 r2 ⟨m, ey, hz, q⟩ => ?_
  subst ey
  obtain ⟨a', ys, ho', k1, k2, k3⟩ := own_at f2 hi
  rw [ho] at ho'
  cases ho'
  cases r2 with
  | lst h4 a4 =>
    refine ⟨_, _, _, _, rfl, rfl, k2, f2.ex.exF _ _ h4, small_line (by rw [k3.len, a4.len]; omega), fun p hp => ?_⟩
    exact c p _ _ Hf2 H2 e2 f2 hp (k3.app a4) q
/-! ### in, not in, of flat things -/
def flD : D → Option V
  | .non => some .non
  | .bl c => some (.bl c)
  | .int i => some (.int i)
  | .str s => some (.str s)
  | _ => none
def flL : List D → Option (List V)
  | [] => some []
  | d :: r => match flD d, flL r with
    | some v, some vs => some (v :: vs)
    | _, _ => none
theorem Rp.fl {v u : V} {d : D} (r : Rp K H v d) (h : flD d = some u) : v = u ∧ flatV v = true := by
  cases r <;> first | (cases h; exact ⟨rfl, rfl⟩) | cases h
theorem RpA.fl : ∀ {vs us : List V} {ds : List D}, RpA K H vs ds → flL ds = some us → vs = us ∧ vs.all flatV = true
  | _, _, _, .nil, h => by cases h; exact ⟨rfl, rfl⟩
  | _, us, d :: ds, .cons q r, h => by
    have h' : (match flD d, flL ds with | some v, some vs => some (v :: vs) | _, _ => none) = some us := h
    split at h'
    · rename_i v vs e1 e2
      cases h'
      obtain ⟨a1, a2⟩ := q.fl e1
      obtain ⟨b1, b2⟩ := r.fl e2
      subst a1
      subst b1
      exact ⟨rfl, by rw [List.all_cons, a2, b2] <;> rfl⟩
    · cases h'
def seqD : D → Option (List D)
  | .tup l => some l
  | .lst l => some l
  | _ => none
theorem de_in {neg : Bool} (h : DE K b ρ ta fun x => DE K b ρ tb fun y => ∃ v l us, flD x = some v ∧ seqD y = some l ∧ flL l = some us ∧ Q (.bl (if neg then !inV v us else inV v us))) : DE K b ρ (tOp (rIn K neg) ta tb) Q :=
  de_op (h.imp fun x hx => hx.imp fun y ⟨v', l, us, e1, e2, e3, q⟩ Hf H σ k v u f rv ru c => by
    obtain ⟨a1, a2⟩ := rv.fl e1
    subst a1
    cases ru with
    | tup h1 h2 =>
      cases e2
      obtain ⟨b1, b2⟩ := h2.fl e3
      subst b1
      exact ⟨_, _, rfl, Or.inr (f.ex.exF.st h1), a2, b2, c _ _ Hf H Up.refl f (.bl _) q⟩
    | lst h1 h2 =>
      cases e2
      obtain ⟨b1, b2⟩ := h2.fl e3
      subst b1
      exact ⟨_, _, rfl, Or.inl (SqL.of (f.ex.exF _ _ h1)), a2, b2, c _ _ Hf H Up.refl f (.bl _) q⟩
    | non => cases e2
    | bl _ => cases e2
    | int _ => cases e2
    | str _ => cases e2
    | ty _ => cases e2
    | fn _ => cases e2
    | dic _ _ _ => cases e2
    | obj _ _ _ => cases e2
    | exc _ _ _ => cases e2
    | exc0 _ _ => cases e2)
/-! ### isinstance -/
def tyD : D → Option String
  | .non => some "NoneType"
  | .bl _ => some "bool"
  | .int _ => some "int"
  | .str _ => some "str"
  | .tup _ => some "tuple"
  | .lst _ => some "list"
  | .dic _ => some "dict"
  | _ => none
theorem Rp.tyX {v : V} {d : D} {t : String} (r : Rp K Hf v d) (e : Ex Hf H) (h : tyD d = some t) : TyX K H v (.type t) := by
  cases r with
  | non => cases h; exact .base .non
  | bl _ => cases h; exact .base (.bl _)
  | int _ => cases h; exact .base (.int _)
  | str _ => cases h; exact .base (.str _)
  | tup h1 _ =>
    cases h
    match e.st h1 with
    | .inl (.inl h2) => exact .base (.tup h2)
    | .inl (.inr ⟨o, h2⟩) => exact .fTuple h2
    | .inr ⟨o, its, n, h2, h3, _⟩ => exact .kTuple h2 h3
  | lst h1 _ => cases h; exact .base (.lst (e _ _ h1))
  | dic h1 _ _ => cases h; exact .base (.dK (e _ _ h1))
  | ty _ => cases h
  | fn _ => cases h
  | obj _ _ _ => cases h
  | exc _ _ _ => cases h
  | exc0 _ _ => cases h
/-- what the class of an error must say so that its fields are read, its class asked -/
structure XcC (K : PySem.W.Frag) (C : Addr) : Prop where
  cl : (PySem.W.clsIn K C).isSome = true
  ga : PySem.W.findIn K (.ref C) "__getattribute__" = some (some (.builtin "BaseException.__getattribute__"))
  gg : PySem.W.findIn K (.ref C) "__getattr__" = some none
  sb : PySem.W.subIn K (.ref C) (.type "BaseException") = some true
  hd : PySem.W.hasDictIn K C = true
  ka : PySem.W.findIn K (.ref C) "__class__" = some (some (.builtin "object.__class__"))
  kn : PySem.W.specialIn K (.builtin "object.__class__") "__get__" = some (some (.builtin "getset_descriptor.__get__"))
  kt : PySem.W.takesIn K (.builtin "object.__class__") = some true
  km : PySem.W.mroIn K C (.type "object") = some true
/-- the error at a, of the class at C, its own dict at d, is pinned -/
def PnOk (K : PySem.W.Frag) (pn : Pins) (a : Addr) (d : Option Addr) (C : Addr) : Prop := ∃ oe, (a, oe) ∈ pn ∧ Zc (.ref C) d oe ∧ (∃ vs, oe.data = .fields vs) ∧ XcC K C
/-- which errors are pinned -/
abbrev PinP := Addr → Option Addr → Addr → Prop
def rIsX (K : PySem.W.Frag) (pn : PinP) : List V → Hp → VK → Prop := fun xs H Q => ∃ (a : Addr) (d : Option Addr) (C : Addr) (c : V) (cv : Value) (r : Bool), xs = [.ref a, c] ∧ pn a d C ∧ (∀ dx, d = some dx → ∃ fs, H dx = some (.xd fs)) ∧ ClsV c cv ∧ PySem.W.kitOne K (.ref C) cv = some r ∧ Q (.bl r) H
theorem call_isX {X : Cx} {pn : PinP} (hp : ∀ a d C, pn a d C → PnOk X.K X.pn a d C) : CallR X (.builtin "isinstance") (rIsX X.K pn) := by
  intro pins s σ H xs us Q I r h
  obtain ⟨a, d, C, c, cv, r0, rfl, hpn, hd, hcv, e, q⟩ := h
  obtain ⟨oe, hm, hz, ⟨vs, hv⟩, hC⟩ := hp a d C hpn
  obtain ⟨u1, u2, rfl, rx, rt⟩ := vals2 r
  have ec := hcv.eq rt
  subst ec
  cases rx
  obtain ⟨hget, _⟩ := I.pin (a, oe) (List.mem_append_left _ hm)
  have J : ∃ od, PySem.W.InstAt s.heap a oe C od := by
    obtain ⟨oc, od, oda, osl⟩ := oe
    obtain ⟨h1, h2⟩ := hz
    dsimp only at h1 h2 hv
    subst h1 h2 hv
    match od, hd with
    | none, _ => exact ⟨none, hget, rfl, rfl, trivial⟩
    | some dx, hd =>
      obtain ⟨fs, hd⟩ := hd dx rfl
      have hx : ObjOk X.prog X.w H s.heap dx (.xd fs) := I.hok dx _ hd
      obtain ⟨mA, ⟨o, es, ep, ho, _⟩, _⟩ := hx
      exact ⟨some o, hget, rfl, rfl, ho⟩
  obtain ⟨od, J⟩ := J
  refine PySem.W.kia_one (PySem.W.kitx_exc hC.cl hC.ga hC.gg hC.sb hC.ka hC.kn hC.kt hC.km) I.kIn J e (fun z => nomatch z) fun tk => ?_
  exact ⟨.bl r0, H, I.kept (t' := tk) fun _ _ z => z, rfl, q⟩
def rIsG (K : PySem.W.Frag) (pn : PinP) : List V → Hp → VK → Prop := fun xs H Q => rIsi K xs H Q ∨ rIsX K pn xs H Q
theorem call_isG {X : Cx} {pn : PinP} (hp : ∀ a d C, pn a d C → PnOk X.K X.pn a d C) : CallR X (.builtin "isinstance") (rIsG X.K pn) := fun pins s σ H xs us Q I r h => h.elim (call_isi pins s σ H xs us Q I r) (call_isX hp pins s σ H xs us Q I r)
/-- isinstance(x, T), T a built-in class: plain data -/
theorem de_isT {pn : PinP} {n : String} (h : DE K b ρ ta fun x => ∃ t r, tyD x = some t ∧ kitB t n = some r ∧ Q (.bl r)) : DE K b ρ (tCB (rIsG K pn) (tCons ta (tCons (tC (.ty n)) tNil))) Q :=
  de_cb (da_cons (h.imp fun x ⟨t, r, e1, e2, q⟩ => da_cons (de_ty (da_nil fun Hf H σ k vs f rr c => by
    cases rr with
    | cons r1 rr =>
      cases rr with
      | cons r2 rr =>
        cases rr
        cases r2
        exact Or.inl ⟨_, _, _, _, r, rfl, .ty n, r1.tyX f.ex.exF e1, kit_ty e2, c _ _ Hf H Up.refl f (.bl _) q⟩))))
/-- isinstance(e, C), e a caught error -/
theorem de_isX {pn : PinP} {u : V} {cv : Value} (hu : ClsV u cv) (h : DE K b ρ ta fun x => ∃ a d C l r, x = .exc a d C l ∧ pn a d C ∧ PySem.W.kitOne K (.ref C) cv = some r ∧ Q (.bl r)) : DE K b ρ (tCB (rIsG K pn) (tCons ta (tCons (tC u) tNil))) Q := fun Hf H σ k fr c => by
  refine h Hf H σ _ fr fun v x Hf1 H1 e1 f1 r1 ⟨a, d, C, l, r, ex, hp, hk, q⟩ => ?_
  subst ex
  cases r1 with
  | exc h1 h2 h3 => exact Or.inr ⟨a, _, C, u, cv, r, rfl, hp, (fun dx e => by cases e; exact ⟨_, f1.ex.exF _ _ h1⟩), hu, hk, c _ _ Hf1 H1 e1 f1 (.bl _) q⟩
  | exc0 _ _ => exact Or.inr ⟨a, _, C, u, cv, r, rfl, hp, (fun dx e => nomatch e), hu, hk, c _ _ Hf1 H1 e1 f1 (.bl _) q⟩
/-- isinstance(x, (T1, T2)) -/
theorem de_isT2 {n m : String} (h : DE K b ρ ta fun x => ∃ t r1 r2, tyD x = some t ∧ kitB t n = some r1 ∧ kitB t m = some r2 ∧ Q (.bl (r1 || r2))) : DE K b ρ (tCB (rIsiT K) (tCons ta (tCons (tTup (tCons (tC (.ty n)) (tCons (tC (.ty m)) tNil))) tNil))) Q := fun Hf H σ k fr c => by
  refine h Hf H σ _ fr fun v x Hf1 H1 e1 f1 r1 ⟨t, a, d, g1, g2, g3, q⟩ => ?_
  refine ⟨by show 2 ≤ sizeLine; decide, fun p hp => ?_⟩
  have n' := f1.ex.exF.no hp
  refine ⟨v, p, [.ty n, .ty m], .type t, [.type n, .type m], (a || d), rfl, upd_same, .cons (.ty n) (.cons (.ty m) .nil), r1.tyX (f1.ex.exF.trans (Ex.new hp)) g1, ?_, c _ _ (upd Hf1 p (.tup [.ty n, .ty m])) _ (e1.trans (Up.new hp n')) (f1.put hp) (.bl _) q⟩
  refine kitAny_cons (kit_ty g2) (fun z => ?_) (fun z => by rw [z] <;> rfl)
  refine kitAny_cons (kit_ty g3) (fun y => ?_) (fun y => by rw [y, Bool.or_true])
  rw [z, y]
  exact kitAny_nil
/-! ### the field of a caught error -/
def tXe (K : PySem.W.Frag) (pn : PinP) (f : Str) (te : TE) : TE := fun σ H Q => te σ H fun x H1 => ∃ (a d C : Addr) (fs : List (Str × V)) (v : V), x = .ref a ∧ pn a (some d) C ∧ PySem.W.findIn K (.ref C) f = some none ∧ H1 d = some (.xd fs) ∧ fs.lookup f = some v ∧ Q v H1
theorem pe_xe {X : Cx} {pn : PinP} (hp : ∀ a d C, pn a d C → PnOk X.K X.pn a d C) {e : Expr} {f : Str} {pos : Pos} {te : TE} (he : PE X e te) (hb : attributeBase e f X.env (eval e X.env) = eval e X.env := by rfl) : PE X (.Attribute e f pos) (tXe X.K pn f te) := by
  refine ⟨fun pins s σ H Q I h => ?_⟩
  refine attr_of hb (thn (he.run pins s σ H _ I h) fun u s1 hh => ?_)
  obtain ⟨x, H1, I1, rx, a, d, C, fs, v, ex, hpn, hno, ed, l, q⟩ := hh
  obtain ⟨oe, hm, hz, ⟨vs, hv⟩, hC⟩ := hp a (some d) C hpn
  subst ex
  obtain rfl : u = Value.ref a := rx
  obtain ⟨hget, _⟩ := I1.pin (a, oe) (List.mem_append_left _ hm)
  have hx : ObjOk X.prog X.w H1 s1.heap d (.xd fs) := I1.hok d _ ed
  obtain ⟨mA, hns, hr⟩ := hx
  obtain ⟨o, ho, hl⟩ := lookIn_ns hns
  obtain ⟨u, hu, ru⟩ := RelO.some_of (v := v) (o := mA f) (by rw [← l]; exact hr f)
  have J : PySem.W.InstAt s1.heap a oe C (some o) := ⟨hget, hz.1, by unfold PySem.W.notCls; rw [hv] <;> rfl, by rw [hz.2]; exact ho⟩
  exact HandSPX.exc_get I1.kIn J hC.ga hC.gg hC.sb (PySem.W.findObj_own hC.hd hno rfl (by rw [hl, hu])) (handed_of ru) ⟨v, H1, I1.tok _, ru, q⟩
theorem lookup_rel : ∀ {xs : List (Str × V)} {ds : List (Str × D)} {f : Str} {d : D}, xs.map (·.1) = ds.map (·.1) → RpA K H (xs.map (·.2)) (ds.map (·.2)) → ds.lookup f = some d → ∃ v, xs.lookup f = some v ∧ Rp K H v d
  | [], [], _, _, _, _, h => by cases h
  | [], _ :: _, _, _, h, _, _ => by cases h
  | _ :: _, [], _, _, h, _, _ => by cases h
  | (k, v) :: xs, (k', d') :: ds, f, d, hk, r, h => by
    have hk' : k :: xs.map (·.1) = k' :: ds.map (·.1) := hk
    injection hk' with e1 e2
    subst e1
    have r' : RpA K H (v :: xs.map (·.2)) (d' :: ds.map (·.2)) := r
    cases r' with
    | cons q r =>
      rw [List.lookup_cons] at h ⊢
      by_cases e : (f == k) = true
      · rw [e] at h ⊢
        cases h
        exact ⟨v, rfl, q⟩
      · have e' : (f == k) = false := by simpa using e
        rw [e'] at h ⊢
        exact lookup_rel e2 r h
theorem de_xe {pn : PinP} {f : Str} (h : DE K b ρ te fun x => ∃ a d C l y, x = .exc a d C l ∧ pn a d C ∧ PySem.W.findIn K (.ref C) f = some none ∧ l.lookup f = some y ∧ Q y) : DE K b ρ (tXe K pn f te) Q := fun Hf H σ k fr c => by
  refine h Hf H σ _ fr fun v x Hf1 H1 e1 f1 r1 ⟨a, d, C, l, y, ex, hp, hn, hl, q⟩ => ?_
  subst ex
  cases r1 with
  | exc0 _ _ => cases hl
  | exc h1 h2 h3 =>
    obtain ⟨v', l', r'⟩ := lookup_rel h2 h3 hl
    exact ⟨a, _, C, _, v', rfl, hp, hn, f1.ex.exF _ _ h1, l', c _ _ Hf1 H1 e1 f1 r' q⟩
end
end G

set_option Elab.async false
set_option linter.all false
set_option maxRecDepth 100000
set_option maxHeartbeats 4000000
/-! DLoop: repr, is with truth values, targets, loops, comprehensions. -/
namespace G
open PySem PySem.Spec PyProof.Rows L2
/-! ### repr -/
def SysD (base : Heap) : Prop := ∃ o es ep, base.get? sysModules = some o ∧ o.data = .dict es ep
section
variable {X : Cx} {pins : Pins} {σ : L2.St} {H : Hp} {s : Shared}
theorem not_sys (hS : SysD X.base) (I : Inv X pins σ H s) {a : Addr} {o : HO} (h : H a = some o) : a ≠ sysModules := fun z => by
  obtain ⟨o', es, ep, e, _⟩ := hS
  have q := (I.bs sysModules o' e).2
  rw [← z, h] at q
  cases q
theorem pairs_read (I : Inv X pins σ H s) : ∀ {es : List DictEntry} {kvs : List (Key × Value)}, Pairs (mixKind X.prog X.w) es kvs → ∃ as, ReadsAll s.heap (es.map (·.key)) (kvs.map fun p => keyPy p.1) as ∧ as = []
  | _, _, .nil => ⟨[], .nil, rfl⟩
  | _, _, .cons (e := e) (kv := kv) h1 h2 h3 => by
    obtain ⟨as, r, ea⟩ := pairs_read I h3
    subst ea
    have h1' : keyIs kv.1 e.key = true := h1
    obtain ⟨k, v⟩ := kv
    rcases keyIs_shape h1' with ⟨i, t, e1, e2⟩ | ⟨x, t, e1, e2⟩
    · have e1' : k = Sum.inl i := e1
      subst e1'
      refine ⟨[] ++ [], ?_, rfl⟩
      show ReadsAll s.heap (e.key :: _) (PyData.int i :: _) _
      rw [e2]
      exact .cons (.int i t) r
    · have e1' : k = Sum.inr x := e1
      subst e1'
      refine ⟨[] ++ [], ?_, rfl⟩
      show ReadsAll s.heap (e.key :: _) (PyData.str x :: _) _
      rw [e2]
      exact .cons (.str x t) r
theorem pairs_val : ∀ {es : List DictEntry} {kvs : List (Key × Value)}, Pairs (mixKind X.prog X.w) es kvs → es.map (·.val) = kvs.map (·.2)
  | _, _, .nil => rfl
  | _, _, .cons h1 h2 h3 => by
    rw [List.map_cons, List.map_cons, pairs_val h3, h2]
theorem kv_split : ∀ {xs : List (Key × V)} {vs : List (Key × Value)}, KV xs vs → xs.map (·.1) = vs.map (·.1) ∧ Vals (xs.map (·.2)) (vs.map (·.2))
  | _, _, .nil => ⟨rfl, .nil⟩
  | _, _, .cons ⟨e, r⟩ t => by
    obtain ⟨a, b⟩ := kv_split t
    exact ⟨by rw [List.map_cons, List.map_cons, e, a], .cons r b⟩
theorem pyK_split : ∀ (l : List (Key × D)), (D.pyK l).map (·.1) = l.map (fun p => keyPy p.1) ∧ (D.pyK l).map (·.2) = D.pyL (l.map (·.2))
  | [] => ⟨by simp [D.pyK], by simp [D.pyK, D.pyL]⟩
  | (k, d) :: r => by
    obtain ⟨a, b⟩ := pyK_split r
    constructor
    · simp only [D.pyK, List.map_cons, a]
    · simp only [D.pyK, List.map_cons, b, D.pyL]
theorem plK_vals : ∀ (l : List (Key × D)), D.plK l = D.plL (l.map (·.2))
  | [] => by simp [D.plK, D.plL]
  | (k, d) :: r => by simp only [D.plK, D.plL, List.map_cons, plK_vals r]
mutual
theorem Rp.reads (hS : SysD X.base) (I : Inv X pins σ H s) : ∀ (d : D) (v : V) (u : Value), Rp X.K H v d → d.pl = true → RelV v u → ∃ as, Reads s.heap u d.py as ∧ sysModules ∉ as
  | .non, _, _, .non, _, r => by
    cases r
    exact ⟨[], by simpa only [D.py] using Reads.none, by simp⟩
  | .bl c, _, _, .bl _, _, r => by
    cases r
    exact ⟨[], by simpa only [D.py] using Reads.bool c, by simp⟩
  | .int i, _, _, .int _, _, r => by
    obtain ⟨t, rfl⟩ := r
    exact ⟨[], by simpa only [D.py] using Reads.int i t, by simp⟩
  | .str x, _, _, .str _, _, r => by
    obtain ⟨t, rfl⟩ := r
    exact ⟨[], by simpa only [D.py] using Reads.str x t, by simp⟩
  | .ty _, _, _, _, h, _ => by simp [D.pl] at h
  | .fn _, _, _, _, h, _ => by simp [D.pl] at h
  | .tup l, _, _, .tup h1 h2, h, r => by
    cases r
    obtain ⟨its, rv, ⟨o, ho, hc, n, hd⟩, _⟩ := I.tuple h1
    obtain ⟨as, hr, hn⟩ := RpA.reads hS I l _ its h2 (by simpa [D.pl] using h) rv
    exact ⟨as, by simp only [D.py]; exact Reads.tuple ho hc hd hr, hn⟩
  | .lst l, _, _, .lst h1 h2, h, r => by
    cases r
    have ne := not_sys hS I h1
    obtain ⟨its, rv, ⟨o, n, ho, hc, _, hd⟩, _⟩ := I.list (SqL.of h1)
    obtain ⟨as, hr, hn⟩ := RpA.reads hS I l _ its h2 (by simpa [D.pl] using h) rv
    exact ⟨_ :: as, by simp only [D.py]; exact Reads.list ho hc hd hr, fun z => (List.mem_cons.mp z).elim (fun y => ne y.symm) hn⟩
  | .dic l, _, _, .dic h1 h2 h3, h, r => by
    cases r
    have ne := not_sys hS I h1
    obtain ⟨_, _, vs, kv, o, es, ep, ho, hx, hd, _, hp, _⟩ := I.hok _ _ h1
    obtain ⟨k1, k2⟩ := kv_split kv
    obtain ⟨bs, hb, eb⟩ := pairs_read I hp
    subst eb
    obtain ⟨as, hr, hn⟩ := RpA.reads hS I (l.map (·.2)) _ (vs.map (·.2)) h3 (by rw [← plK_vals]; simpa [D.pl] using h) k2
    obtain ⟨p1, p2⟩ := pyK_split l
    refine ⟨_ :: [] ++ as, ?_, fun z => (List.mem_cons.mp z).elim (fun y => ne y.symm) fun y => hn (by simpa using y)⟩
    simp only [D.py]
    refine Reads.dict ho hx.1 hd ?_ ?_
    · rw [p1]
      have e : l.map (fun p => keyPy p.1) = vs.map (fun p => keyPy p.1) := by
        have q : ∀ (f : Key → PyData) (a : List (Key × D)) (b : List (Key × Value)), a.map (·.1) = b.map (·.1) → a.map (fun p => f p.1) = b.map (fun p => f p.1) := fun f a b e => by
          have e' := congrArg (List.map f) e
          rw [List.map_map, List.map_map] at e'
          exact e'
        exact q keyPy l vs (h2.symm.trans k1)
      rw [e]
      exact hb
    · rw [p2, pairs_val hp]
      exact hr
  | .obj _ _, _, _, _, h, _ => by simp [D.pl] at h
  | .exc _ _ _ _, _, _, _, h, _ => by simp [D.pl] at h
theorem RpA.reads (hS : SysD X.base) (I : Inv X pins σ H s) : ∀ (ds : List D) (vs : List V) (us : List Value), RpA X.K H vs ds → D.plL ds = true → Vals vs us → ∃ as, ReadsAll s.heap us (D.pyL ds) as ∧ sysModules ∉ as
  | [], _, _, .nil, _, r => by
    cases r
    exact ⟨[], by simp only [D.pyL]; exact ReadsAll.nil, by simp⟩
  | d :: ds, _, _, .cons h1 h2, h, r => by
    cases r with
    | cons r1 r2 =>
      simp only [D.plL, Bool.and_eq_true] at h
      obtain ⟨as, q1, n1⟩ := Rp.reads hS I d _ _ h1 h.1 r1
      obtain ⟨bs, q2, n2⟩ := RpA.reads hS I ds _ _ h2 h.2 r2
      exact ⟨as ++ bs, by simp only [D.pyL]; exact ReadsAll.cons q1 q2, fun z => (List.mem_append.mp z).elim n1 n2⟩
end
end
end G

set_option Elab.async false
set_option linter.all false
set_option maxRecDepth 100000
set_option maxHeartbeats 4000000
/-! DFlow: repr over data, is with truth values, targets, loops, try, raise. -/
namespace G
open PySem PySem.Spec PyProof.Rows L2
section
variable {K : PySem.W.Frag} {b : Bs} {ρ : List Sl} {ta tb te tc : TE} {tt tu : TT} {tr : TA} {Q : D → Prop} {H Hf : Hp}
/-! ### repr -/
def rRepr (K : PySem.W.Frag) : List V → Hp → VK → Prop := fun xs H Q => ∃ x d, xs = [x] ∧ Rp K H x d ∧ d.pl = true ∧ d.py.showable = true ∧ d.py.depth ≤ 60 ∧ d.py.shown.length ≤ sizeLine ∧ Q (.str d.py.shown) H
theorem call_repr {X : Cx} (hS : SysD X.base) (hg : X.A.guards = some []) (hu : X.A.units + 64 < cLine) : CallR X (.builtin "repr") (rRepr X.K) := by
  intro pins s σ H xs us Q I r h
  obtain ⟨x, d, rfl, rp, hp, hs, hd, hz, q⟩ := h
  obtain ⟨u, rfl, rx⟩ := vals1 r
  have byRef : ∀ a, u = Value.ref a → wpAny (model X.prog X.w) X.A (call (.builtin "repr") [u]) (EP X pins σ Q) X.xe s := fun a e => by
    obtain ⟨as, hr, hn⟩ := Rp.reads hS I d x u rp hp rx
    subst e
    refine repr_of_reads' hr hs (fun _ => hn) hg (by omega) (fun _ _ e => e) (fun h' u' tk hk => ?_) hz
    exact ⟨.str _, H, I.kept (t' := tk) hk, ⟨_, rfl⟩, q⟩
  cases rp with
  | non =>
    cases rx
    exact PySem.P.repr_of_none ⟨.str _, H, I.tok _, ⟨_, rfl⟩, by simpa [D.py, PyData.shown] using q⟩
  | bl c =>
    cases rx
    exact PySem.P.repr_of_bool ⟨.str _, H, I.tok _, ⟨_, rfl⟩, by simpa [D.py, PyData.shown] using q⟩
  | int i =>
    obtain ⟨t, rfl⟩ := rx
    exact PySem.P.repr_of_int (by simpa [D.py, PyData.showable] using hs) ⟨.str _, H, I.tok _, ⟨_, rfl⟩, by simpa [D.py, PyData.shown] using q⟩
  | str z =>
    obtain ⟨t, rfl⟩ := rx
    exact PySem.P.repr_of_str ⟨.str _, H, I.tok _, ⟨_, rfl⟩, by simpa [D.py, PyData.shown] using q⟩ (by simpa [D.py, PyData.shown] using hz)
  | ty _ => simp [D.pl] at hp
  | fn _ => simp [D.pl] at hp
  | tup _ _ => exact byRef _ rx
  | lst _ _ => exact byRef _ rx
  | dic _ _ _ => exact byRef _ rx
  | obj _ _ _ => simp [D.pl] at hp
  | exc _ _ _ => simp [D.pl] at hp
  | exc0 _ _ => simp [D.pl] at hp
def okR (d : D) : Prop := d.pl = true ∧ d.py.showable = true ∧ d.py.depth ≤ 60 ∧ d.py.shown.length ≤ 100000
theorem de_repr (h : DE K b ρ ta fun x => okR x ∧ Q (.str x.py.shown)) : DE K b ρ (tCB (rRepr K) (tCons ta tNil)) Q :=
  de_cb1 (h.imp fun x ⟨⟨h1, h2, h3, h4⟩, q⟩ Hf H σ k v f rv c => ⟨v, x, rfl, rv.up f.ex.exF, h1, h2, h3, small_line h4, c _ _ Hf H Up.refl f (.str _) q⟩)
/-! ### is True, is False -/
def rIsBl : R2 := fun x y H Q => ∃ c, y = .bl c ∧ Q (.bl (decide (x = .bl c))) H
theorem op_isBlV {X : Cx} : OpR X (compareOp .Is) rIsBl := by
  intro pins s σ H x y v u Q I rx ry h
  obtain ⟨c, rfl, q⟩ := h
  cases (show u = Value.bool c from ry)
  have e : (v == Value.bool c) = decide (x = V.bl c) := by
    cases x with
    | non => cases rx; rfl
    | bl d =>
      cases (show v = Value.bool d from rx)
      cases c <;> cases d <;> rfl
    | int _ => obtain ⟨t, rfl⟩ := rx; rfl
    | str _ => obtain ⟨t, rfl⟩ := rx; rfl
    | byt _ => obtain ⟨t, rfl⟩ := rx; rfl
    | flt _ => obtain ⟨t, rfl⟩ := rx; rfl
    | ref _ => cases rx; rfl
    | ty _ => cases rx; rfl
  have go : wpAny (model X.prog X.w) X.A (pure (Value.bool (v == Value.bool c))) (EP X pins σ Q) X.xe s := wpAny_pure ⟨.bl _, H, I, by rw [e]; rfl, q⟩
  cases x with
  | non => cases rx; exact go
  | bl d => cases (show v = Value.bool d from rx); exact go
  | int _ => obtain ⟨t, rfl⟩ := rx; exact go
  | str _ => obtain ⟨t, rfl⟩ := rx; exact go
  | byt _ => obtain ⟨t, rfl⟩ := rx; exact go
  | flt _ => obtain ⟨t, rfl⟩ := rx; exact go
  | ref _ => cases rx; exact go
  | ty _ => cases rx; exact go
def isB (x : D) (c : Bool) : Bool := match x with
  | .bl d => d == c
  | _ => false
theorem de_isBl {c : Bool} (h : DE K b ρ ta fun x => Q (.bl (isB x c))) : DE K b ρ (tOp rIsBl ta (tC (.bl c))) Q := fun Hf H σ k fr cc => by
  refine h Hf H σ _ fr fun v x Hf1 H1 e1 f1 r1 q => ?_
  refine ⟨c, rfl, ?_⟩
  have e : decide (v = V.bl c) = isB x c := by
    cases r1 <;> first | rfl | skip
    rename_i d
    cases c <;> cases d <;> rfl
  rw [e]
  exact cc _ _ Hf1 H1 e1 f1 (.bl _) q
/-! ### targets -/
def DG (K : PySem.W.Frag) (b : Bs) (ρ : List Sl) (g : TG) (x : D) (Q : List Sl → Prop) : Prop := ∀ (Hf H : Hp) (σ : L2.St) (v : V) (k : L2.St → Hp → Prop), Fm K b Hf H σ ρ → Rp K Hf v x →
  (∀ ρ' σ' Hf' H', Ex Hf Hf' → Fm K b Hf' H' σ' ρ' → Q ρ' → k σ' H') → g v σ H k
def DGs (K : PySem.W.Frag) (b : Bs) (ρ : List Sl) (g : TGs) (xs : List D) (Q : List Sl → Prop) : Prop := ∀ (Hf H : Hp) (σ : L2.St) (vs : List V) (k : L2.St → Hp → Prop), Fm K b Hf H σ ρ → RpA K Hf vs xs →
  (∀ ρ' σ' Hf' H', Ex Hf Hf' → Fm K b Hf' H' σ' ρ' → Q ρ' → k σ' H') → g vs σ H k
variable {x : D} {xs : List D} {R : List Sl → Prop} {g : TG} {gs : TGs}
theorem dg_name {i : Nat} (q : R (ρ.set i (.sh x))) : DG K b ρ (gName i) x R := fun Hf H σ v k fr r c => c _ _ Hf H (Ex.refl _) (fr.set r) q
theorem dgs_nil (q : R ρ) : DGs K b ρ gNil [] R := fun Hf H σ vs k fr r c => by
  cases r
  exact ⟨rfl, c _ _ Hf H (Ex.refl _) fr q⟩
theorem dgs_cons (h : DG K b ρ g x fun ρ' => DGs K b ρ' gs xs R) : DGs K b ρ (gCons g gs) (x :: xs) R := fun Hf H σ vs k fr r c => by
  cases r with
  | cons r1 r2 =>
    refine ⟨_, _, rfl, ?_⟩
    refine h Hf H σ _ _ fr r1 fun ρ' σ' Hf' H' e f q => ?_
    exact q Hf' H' σ' _ _ f (r2.up e) fun ρ2 σ2 Hf2 H2 e2 f2 q2 => c ρ2 σ2 Hf2 H2 (e.trans e2) f2 q2
theorem dg_tup {n : Nat} {l : List D} (hx : x = .tup l) (hn : l.length = n) (h : DGs K b ρ gs l R) : DG K b ρ (gTup K n gs) x R := fun Hf H σ v k fr r c => by
  subst hx
  cases r with
  | tup h1 h2 => exact ⟨_, _, rfl, fr.ex.exF.st h1, by rw [h2.len]; exact hn, h Hf H σ _ k fr h2 c⟩
variable {nx bk ct : List Sl → Prop} {rt : D → Prop} {ts tw tb' : TS}
theorem ds_asgG (h : DE K b ρ te fun d => DG K b ρ g d nx) : DS K b ρ (tAsg te g) nx rt bk ct := fun Hf H σ D fr n r bk ct =>
  h Hf H σ _ fr fun v d Hf' H' e f rp q => q Hf' H' σ v _ f rp fun ρ2 σ2 Hf2 H2 e2 f2 q2 => n ρ2 σ2 Hf2 H2 (e.1.trans e2) f2 q2
/-- a, b = x, y -/
theorem ds_par {i j : Nat} (h : DA K b ρ tr fun l => ∃ x y, l = [x, y] ∧ nx ((ρ.set i (.sh x)).set j (.sh y))) : DS K b ρ (tPar i j tr) nx rt bk ct := fun Hf H σ D fr n r bk ct => by
  refine h Hf H σ _ fr fun vs ds Hf1 H1 e1 f1 r1 ⟨x, y, e, q⟩ => ?_
  subst e
  cases r1 with
  | cons q1 r1 =>
    cases r1 with
    | cons q2 r1 =>
      cases r1
      exact ⟨_, _, rfl, n _ _ Hf1 H1 e1.1 ((f1.set q1).set q2) q⟩
/-- x op= e of ints -/
theorem ds_aug {i : Nat} {f : Int → Int → Int} {a : Int} (hi : ρ[i]? = some (.sh (.int a))) (h : DE K b ρ te fun y => ∃ j, y = .int j ∧ nx (ρ.set i (.sh (.int (f a j))))) : DS K b ρ (tAug i te (ipI f)) nx rt bk ct := fun Hf H σ D fr n r bk ct => by
  have hl : i < σ.length := by rw [fr.len]; exact (List.getElem?_eq_some_iff.mp hi).1
  have ho : σ[i]? = some σ[i] := List.getElem?_eq_getElem hl
  have z := fr.sl i _ _ ho hi
  generalize σ[i] = o at ho z
  match o, z with
  | none, z => exact z.elim
  | some v, z =>
    have ev := Rp.int_inv z
    subst ev
    refine ⟨.int a, ho, ?_⟩
    refine h Hf H σ _ fr fun v d Hf1 H1 e1 f1 r1 ⟨j, e, q⟩ => ?_
    subst e
    exact ⟨a, j, rfl, r1.int_inv, n _ _ Hf1 H1 e1.1 (f1.set (.int _)) q⟩
/-! ### loops -/
theorem ds_while (I : Nat → List Sl → Prop) (m : Nat) (h0 : I m ρ) (hs : ∀ m ρ', I m ρ' → DT K b ρ' tt fun c => if c = true then DS K b ρ' tb' (fun ρ2 => ∃ m', m' < m ∧ I m' ρ2) rt nx (fun ρ2 => ∃ m', m' < m ∧ I m' ρ2) else nx ρ') :
    DS K b ρ (tWhile tt tb') nx rt bk ct := fun Hf H σ D fr n r bk ct => by
  refine ⟨fun m σ' H' => ∃ ρ' Hf', Ex Hf Hf' ∧ Fm K b Hf' H' σ' ρ' ∧ I m ρ', ⟨m, ρ, Hf, Ex.refl _, fr, h0⟩, fun m σ' H' ⟨ρ', Hf', e, f, hI⟩ => ?_⟩
  refine hs m ρ' hI Hf' H' σ' _ f fun c Hf1 H1 e1 f1 q => ?_
  cases c with
  | true =>
    refine iteT ⟨fun σ2 H2 => ∃ m', m' < m ∧ ∃ ρ2 Hf2, Ex Hf Hf2 ∧ Fm K b Hf2 H2 σ2 ρ2 ∧ I m' ρ2, fun σ2 H2 z => z, ?_⟩
    refine (show DS K b ρ' tb' _ _ _ _ from q) Hf1 H1 σ' _ f1 (fun ρ2 σ2 Hf2 H2 e2 f2 ⟨m', hm, q2⟩ => ⟨m', hm, ρ2, Hf2, e.trans (e1.1.trans e2), f2, q2⟩) (fun v d Hf2 H2 e2 x2 r2 q2 => r v d Hf2 H2 (e.trans (e1.1.trans e2)) x2 r2 q2)
      (fun ρ2 σ2 Hf2 H2 e2 f2 q2 => n ρ2 σ2 Hf2 H2 (e.trans (e1.1.trans e2)) f2 q2) (fun ρ2 σ2 Hf2 H2 e2 f2 ⟨m', hm, q2⟩ => ⟨m', hm, ρ2, Hf2, e.trans (e1.1.trans e2), f2, q2⟩)
  | false => exact iteF (n ρ' σ' Hf1 H1 (e.trans e1.1) f1 q)
theorem ds_forN {lo : Int} {m : Nat} {wi : TI} {Hf1 H1 : Hp} {σ1 : L2.St} {D : Ends} (I : Nat → List Sl → Prop) (f1 : Fm K b Hf1 H1 σ1 ρ) (h0 : I 0 ρ) (hs : ∀ (i : Nat) ρ', i < m → I i ρ' → DG K b ρ' g (.int (lo + i)) fun ρ2 => DS K b ρ2 tb' (I (i + 1)) rt nx (I (i + 1))) (hd : ∀ ρ', I m ρ' → nx ρ')
    (n : ∀ ρ' σ' Hf' H', Ex Hf1 Hf' → Fm K b Hf' H' σ' ρ' → nx ρ' → D.nx σ' H') (r : ∀ v d Hf' H', Ex Hf1 Hf' → Exit K b Hf' H' → Rp K Hf' v d → rt d → D.rt v H') :
    ∃ W : Nat → Nat → L2.St → Hp → Prop, (∃ m, W 0 m σ1 H1) ∧ ∀ i m' σ H, W i m' σ H →
      ((Itr lo m).stop i H ∧ D.nx σ H) ∨ ((Itr lo m).go i H ∧ ∃ N : L2.St → Hp → Prop, (∀ σ' H', N σ' H' → ∃ m2, m2 < m' ∧ W (i + 1) m2 σ' H') ∧ ∀ x H', (Itr lo m).yld i H x H' → g x σ H' fun σ2 H2 => tb' { D with nx := N, ct := N, bk := D.nx } σ2 H2) := by
  refine for_range (fun i σ' H' => ∃ ρ' Hf', Ex Hf1 Hf' ∧ Fm K b Hf' H' σ' ρ' ∧ I i ρ') ⟨ρ, Hf1, Ex.refl _, f1, h0⟩ (fun i σ' H' hi ⟨ρ', Hf', e, f, hI⟩ => ?_) (fun σ' H' ⟨ρ', Hf', e, f, hI⟩ => n ρ' σ' Hf' H' e f (hd ρ' hI))
  refine hs i ρ' hi hI Hf' H' σ' _ _ f (.int _) fun ρ2 σ2 Hf2 H2 e2 f2 q => ?_
  exact q Hf2 H2 σ2 _ f2 (fun ρ3 σ3 Hf3 H3 e3 f3 q3 => ⟨ρ3, Hf3, e.trans (e2.trans e3), f3, q3⟩) (fun v d Hf3 H3 e3 x3 r3 q3 => r v d Hf3 H3 (e.trans (e2.trans e3)) x3 r3 q3)
    (fun ρ3 σ3 Hf3 H3 e3 f3 q3 => n ρ3 σ3 Hf3 H3 (e.trans (e2.trans e3)) f3 q3) (fun ρ3 σ3 Hf3 H3 e3 f3 q3 => ⟨ρ3, Hf3, e.trans (e2.trans e3), f3, q3⟩)
theorem ds_forR1 (h : DA K b ρ tr fun l => ∃ j : Int, l = [.int j] ∧ -(2 ^ 60) ≤ j ∧ j ≤ 2 ^ 60 ∧ ∃ I : Nat → List Sl → Prop, I 0 ρ ∧ (∀ (i : Nat) ρ', i < j.toNat → I i ρ' → DG K b ρ' g (.int i) fun ρ2 => DS K b ρ2 tb' (I (i + 1)) rt nx (I (i + 1))) ∧ ∀ ρ', I j.toNat ρ' → nx ρ') :
    DS K b ρ (tFor (iRng1 tr) g tb') nx rt bk ct := fun Hf H σ D fr n r bk ct => by
  refine h Hf H σ _ fr fun vs ds Hf1 H1 e1 f1 r1 ⟨j, e, l1, l2, I, h0, hs, hd⟩ => ?_
  subst e
  cases r1 with
  | cons q1 r1 =>
    cases r1
    have e := q1.int_inv
    subst e
    refine ⟨j, rfl, by omega, by omega, ?_⟩
    exact ds_forN (wi := iRng1 tr) (nx := nx) (rt := rt) I f1 h0 (fun i ρ' hi hI => by rw [Int.zero_add]; exact hs i ρ' hi hI) hd (fun ρ' σ' Hf' H' e f q => n ρ' σ' Hf' H' (e1.1.trans e) f q) (fun v d Hf' H' e x r' q => r v d Hf' H' (e1.1.trans e) x r' q)
theorem ds_forR2 (h : DA K b ρ tr fun l => ∃ i0 j : Int, l = [.int i0, .int j] ∧ -(2 ^ 60) ≤ i0 ∧ i0 ≤ 2 ^ 60 ∧ -(2 ^ 60) ≤ j ∧ j ≤ 2 ^ 60 ∧ ∃ I : Nat → List Sl → Prop, I 0 ρ ∧ (∀ (i : Nat) ρ', i < (j - i0).toNat → I i ρ' → DG K b ρ' g (.int (i0 + i)) fun ρ2 => DS K b ρ2 tb' (I (i + 1)) rt nx (I (i + 1))) ∧ ∀ ρ', I (j - i0).toNat ρ' → nx ρ') :
    DS K b ρ (tFor (iRng2 tr) g tb') nx rt bk ct := fun Hf H σ D fr n r bk ct => by
  refine h Hf H σ _ fr fun vs ds Hf1 H1 e1 f1 r1 ⟨i0, j, e, l1, l2, l3, l4, I, h0, hs, hd⟩ => ?_
  subst e
  cases r1 with
  | cons q1 r1 =>
    cases r1 with
    | cons q2 r1 =>
      cases r1
      have e := q1.int_inv
      subst e
      have e := q2.int_inv
      subst e
      refine ⟨i0, j, rfl, by omega, ?_⟩
      exact ds_forN (wi := iRng2 tr) (nx := nx) (rt := rt) I f1 h0 hs hd (fun ρ' σ' Hf' H' e f q => n ρ' σ' Hf' H' (e1.1.trans e) f q) (fun v d Hf' H' e x r' q => r v d Hf' H' (e1.1.trans e) x r' q)
/-- a list or a tuple, walked -/
def iSeq (K : PySem.W.Frag) (tl : TE) : TI := fun σ H R => tl σ H fun x H1 => ∃ a, x = .ref a ∧ (((∃ xs, SqL K H1 a xs) ∧ R (Itl K a) H1) ∨ ((∃ xs, SqT K H1 a xs) ∧ R (Itt K a) H1))
theorem pi_seq {X : Cx} {tg l : Expr} {tl : TE} (hl : PE X l tl) : PI X tg l (iSeq X.K tl) := by
  refine ⟨fun pins s σ H R I h => ?_⟩
  refine thn (hl.run pins s σ H _ I h) ?_
  intro v s1 z
  obtain ⟨x, H1, I1, r1, a, ex, q1⟩ := z
  subst ex
  cases r1
  have I2 : Inv X pins σ H1 { s1 with heap := s1.heap } := I1
  have fresh := I1.hok.fresh (Nat.le_refl s1.heap.objs.size)
  cases q1 with
  | inl q1 =>
    obtain ⟨⟨xs, hq⟩, q⟩ := q1
    obtain ⟨its, rv, p, _⟩ := I1.list hq
    refine wpAny_pyIter_list p.isList ?_
    refine ⟨_, [s1.heap.objs.size], _, _, H1, rfl, ?_, turn_list a _, ?_, ?_, q⟩
    · exact I1.kept (t' := s1.toks) fun b o e => Heap.get?_push_of_some _ e
    · exact ⟨_, Heap.get?_push_size _ rfl, rfl, rfl⟩
    · intro c hc
      rw [List.mem_singleton.mp hc]
      exact I1.fpOk (Nat.le_refl _) fresh
  | inr q1 =>
    obtain ⟨⟨xs, hq⟩, q⟩ := q1
    obtain ⟨its, rv, p, _⟩ := I1.tuple hq
    refine wpAny_pyIter_tuple (show s1.heap.IsTuple a its.toArray from p) ?_
    refine ⟨_, [s1.heap.objs.size], _, _, H1, rfl, ?_, turn_tuple a _, ?_, ?_, q⟩
    · exact I1.kept (t' := s1.toks) fun b o e => Heap.get?_push_of_some _ e
    · exact ⟨_, Heap.get?_push_size _ rfl, rfl, rfl⟩
    · intro c hc
      rw [List.mem_singleton.mp hc]
      exact I1.fpOk (Nat.le_refl _) fresh
theorem ds_forS (h : DE K b ρ ta fun x => ∃ l, seqD x = some l ∧ ∃ I : Nat → List Sl → Prop, I 0 ρ ∧ (∀ (i : Nat) d ρ', l[i]? = some d → I i ρ' → DG K b ρ' g d fun ρ2 => DS K b ρ2 tb' (I (i + 1)) rt nx (I (i + 1))) ∧ ∀ ρ', I l.length ρ' → nx ρ') :
    DS K b ρ (tFor (iSeq K ta) g tb') nx rt bk ct := fun Hf H σ D fr n r bk ct => by
  refine h Hf H σ _ fr fun v x Hf1 H1 e1 f1 r1 ⟨l, el, I, h0, hs, hd⟩ => ?_
  have turn : ∀ {xs : List V} (rx : RpA K Hf1 xs l) (i : Nat) (y : V) (σ' : L2.St) (H' : Hp), xs[i]? = some y → (∃ ρ' Hf', Ex Hf1 Hf' ∧ Fm K b Hf' H' σ' ρ' ∧ I i ρ') →
      g y σ' H' fun σ2 H2 => tb' { D with nx := fun σ3 H3 => ∃ ρ' Hf', Ex Hf1 Hf' ∧ Fm K b Hf' H3 σ3 ρ' ∧ I (i + 1) ρ', ct := fun σ3 H3 => ∃ ρ' Hf', Ex Hf1 Hf' ∧ Fm K b Hf' H3 σ3 ρ' ∧ I (i + 1) ρ', bk := D.nx } σ2 H2 := fun rx i y σ' H' hi ⟨ρ', Hf', e, f, hI⟩ => by
    obtain ⟨d, hd', rd⟩ := rx.at' hi
    refine hs i d ρ' hd' hI Hf' H' σ' _ _ f (rd.up e) fun ρ2 σ2 Hf2 H2 e2 f2 q => ?_
    exact q Hf2 H2 σ2 _ f2 (fun ρ3 σ3 Hf3 H3 e3 f3 q3 => ⟨ρ3, Hf3, e.trans (e2.trans e3), f3, q3⟩) (fun v d Hf3 H3 e3 x3 r3 q3 => r v d Hf3 H3 (e1.1.trans (e.trans (e2.trans e3))) x3 r3 q3)
      (fun ρ3 σ3 Hf3 H3 e3 f3 q3 => n ρ3 σ3 Hf3 H3 (e1.1.trans (e.trans (e2.trans e3))) f3 q3) (fun ρ3 σ3 Hf3 H3 e3 f3 q3 => ⟨ρ3, Hf3, e.trans (e2.trans e3), f3, q3⟩)
  have fin : ∀ σ' H', (∃ ρ' Hf', Ex Hf1 Hf' ∧ Fm K b Hf' H' σ' ρ' ∧ I l.length ρ') → D.nx σ' H' := fun σ' H' ⟨ρ', Hf', e, f, hI⟩ => n ρ' σ' Hf' H' (e1.1.trans e) f (hd ρ' hI)
  cases r1 with
  | tup h1 h2 =>
    cases el
    refine ⟨_, rfl, Or.inr ⟨⟨_, f1.ex.exF.st h1⟩, ?_⟩⟩
    exact for_tup (fun i σ' H' => ∃ ρ' Hf', Ex Hf1 Hf' ∧ Fm K b Hf' H' σ' ρ' ∧ I i ρ') ⟨ρ, Hf1, Ex.refl _, f1, h0⟩ (fun i σ' H' _ ⟨ρ', Hf', e, f, _⟩ => f.ex.exF.st (e.st h1)) (fun i y σ' H' hi p => turn h2 i y σ' H' hi p) (fun σ' H' p => fin σ' H' (by rw [← h2.len]; exact p))
  | lst h1 h2 =>
    cases el
    refine ⟨_, rfl, Or.inl ⟨⟨_, SqL.of (f1.ex.exF _ _ h1)⟩, ?_⟩⟩
    exact for_list (fun i σ' H' => ∃ ρ' Hf', Ex Hf1 Hf' ∧ Fm K b Hf' H' σ' ρ' ∧ I i ρ') ⟨ρ, Hf1, Ex.refl _, f1, h0⟩ (fun i σ' H' _ ⟨ρ', Hf', e, f, _⟩ => SqL.of (f.ex.exF _ _ (e _ _ h1))) (fun i y σ' H' hi p => turn h2 i y σ' H' hi p) (fun σ' H' p => fin σ' H' (by rw [← h2.len]; exact p))
  | non => cases el
  | bl _ => cases el
  | int _ => cases el
  | str _ => cases el
  | ty _ => cases el
  | fn _ => cases el
  | dic _ _ _ => cases el
  | obj _ _ _ => cases el
  | exc _ _ _ => cases el
  | exc0 _ _ => cases el
end
end G

set_option Elab.async false
set_option linter.all false
set_option maxRecDepth 100000
set_option maxHeartbeats 4000000
/-! DErr: own errors made, raised, caught, over data. -/
namespace G
open PySem PySem.Spec PyProof.Rows L2
/-! ### __init__ of an error that keeps its arguments -/
structure Inited (H H2 : Hp) (a C d : Addr) (fs : List (Str × V)) : Prop where
  obj : H2 a = some (exo a C (some d))
  dct : H2 d = some (exd d fs)
  new : H d = none
  ne : d ≠ a
  old : ∀ b, b ≠ a → b ≠ d → H2 b = H b
def spInit (C : Addr) (names : List Str) : Sp := fun vs H Q _ => ∃ (a : Addr) (ys : List V), vs = .ref a :: ys ∧ ys.length = names.length ∧ H a = some (exo a C none) ∧ ∀ d H2, Inited H H2 a C d (names.zip ys).reverse → Q .non H2
section
variable {K : PySem.W.Frag} {f : Str} {i : Nat} {y : V} {a C d : Addr} {σ : L2.St} {H H0 : Hp} {D : Ends} {fs : List (Str × V)} {ts : TS}
theorem ost_first (h0 : σ[0]? = some (some (.ref a))) (hi : σ[i]? = some (some y)) (T : OexC K C) (n : PySem.W.findIn K (.ref C) f = some none) (hH : H a = some (exo a C none)) (k : ∀ d H2, Inited H H2 a C d [(f, y)] → D.nx σ H2) :
    tOst K f (tVar 0) (tVar i) D σ H := by
  refine ⟨y, hi, _, h0, a, C, rfl, T, n, Or.inl ⟨hH, fun d hd ne => ?_⟩⟩
  refine k d _ { obj := upd_same, dct := ?_, new := hd, ne := ne, old := fun b h1 h2 => ?_ }
  · rw [upd_ne ne, upd_same]
  · rw [upd_ne h1, upd_ne h2]
theorem ost_next (h0 : σ[0]? = some (some (.ref a))) (hi : σ[i]? = some (some y)) (T : OexC K C) (n : PySem.W.findIn K (.ref C) f = some none) (J : Inited H0 H a C d fs) (hl : fs.length ≤ 900) (k : ∀ H2, Inited H0 H2 a C d ((f, y) :: fs) → D.nx σ H2) :
    tOst K f (tVar 0) (tVar i) D σ H := by
  refine ⟨y, hi, _, h0, a, C, rfl, T, n, Or.inr ⟨d, fs, J.obj, J.dct, hl, ?_⟩⟩
  refine k _ { obj := ?_, dct := upd_same, new := J.new, ne := J.ne, old := fun b h1 h2 => ?_ }
  · rw [upd_ne J.ne.symm]; exact J.obj
  · rw [upd_ne h2]; exact J.old b h1 h2
end
section
variable {P : Program} {w : World} {K : PySem.W.Frag} {mg : Str → Option Value} {base : Heap} {C fI : Addr} {fd : FuncData} {qual a1 a2 a3 f1 f2 f3 : Str} {st : Stmt}
/-- self.f1 = a1 -/
theorem init1 (F : Fun K "__init__" qual st fI fd) (S : FnScope (["self", a1] : List Str) (["self", a1] : List Str) (defScope st)) (T : OexC K C) (n1 : PySem.W.findIn K (.ref C) f1 = some none)
    (body : ∀ (cdv : Value) (A : Around) (outer : List Env) (s : Shared) (H : Hp) (E : XK), PSs (cxOf CX0 P w K mg base (["self", a1] : List Str) qual (defScope st) fI cdv A outer s H E).nox (defBody st) (tOst K f1 (tVar 0) (tVar 1))) : FnOk P w K mg base CX0 1 fI fd ["self", a1] (spInit C [f1]) := by
  refine F.ok S (fun vs H Q E h => ?_) (fun cdv A outer s H vs Q E hr h => ?_)
  · obtain ⟨a, ys, rfl, hl, _⟩ := h
    simpa using hl
  · obtain ⟨a, ys, rfl, hl, hH, k⟩ := h
    match ys, hl with
    | [y], _ =>
      refine ⟨_, body cdv A outer s H E, ?_⟩
      exact ost_first (C := C) rfl rfl T n1 hH fun d H2 J => k d H2 J
theorem init2 (F : Fun K "__init__" qual st fI fd) (S : FnScope (["self", a1, a2] : List Str) (["self", a1, a2] : List Str) (defScope st)) (T : OexC K C) (n1 : PySem.W.findIn K (.ref C) f1 = some none) (n2 : PySem.W.findIn K (.ref C) f2 = some none)
    (body : ∀ (cdv : Value) (A : Around) (outer : List Env) (s : Shared) (H : Hp) (E : XK), PSs (cxOf CX0 P w K mg base (["self", a1, a2] : List Str) qual (defScope st) fI cdv A outer s H E).nox (defBody st) (tSeq (tOst K f1 (tVar 0) (tVar 1)) (tOst K f2 (tVar 0) (tVar 2)))) : FnOk P w K mg base CX0 1 fI fd ["self", a1, a2] (spInit C [f1, f2]) := by
  refine F.ok S (fun vs H Q E h => ?_) (fun cdv A outer s H vs Q E hr h => ?_)
  · obtain ⟨a, ys, rfl, hl, _⟩ := h
    simpa using hl
  · obtain ⟨a, ys, rfl, hl, hH, k⟩ := h
    match ys, hl with
    | [y, z], _ =>
      refine ⟨_, body cdv A outer s H E, ?_⟩
      exact ost_first (C := C) rfl rfl T n1 hH fun d H2 J => ost_next (C := C) rfl rfl T n2 J (by show 1 ≤ 900; decide) fun H3 J3 => k d H3 J3
theorem init3 (F : Fun K "__init__" qual st fI fd) (S : FnScope (["self", a1, a2, a3] : List Str) (["self", a1, a2, a3] : List Str) (defScope st)) (T : OexC K C) (n1 : PySem.W.findIn K (.ref C) f1 = some none) (n2 : PySem.W.findIn K (.ref C) f2 = some none) (n3 : PySem.W.findIn K (.ref C) f3 = some none)
    (body : ∀ (cdv : Value) (A : Around) (outer : List Env) (s : Shared) (H : Hp) (E : XK), PSs (cxOf CX0 P w K mg base (["self", a1, a2, a3] : List Str) qual (defScope st) fI cdv A outer s H E).nox (defBody st) (tSeq (tOst K f1 (tVar 0) (tVar 1)) (tSeq (tOst K f2 (tVar 0) (tVar 2)) (tOst K f3 (tVar 0) (tVar 3))))) : FnOk P w K mg base CX0 1 fI fd ["self", a1, a2, a3] (spInit C [f1, f2, f3]) := by
  refine F.ok S (fun vs H Q E h => ?_) (fun cdv A outer s H vs Q E hr h => ?_)
  · obtain ⟨a, ys, rfl, hl, _⟩ := h
    simpa using hl
  · obtain ⟨a, ys, rfl, hl, hH, k⟩ := h
    match ys, hl with
    | [y, z, u], _ =>
      refine ⟨_, body cdv A outer s H E, ?_⟩
      exact ost_first (C := C) rfl rfl T n1 hH fun d H2 J => ost_next (C := C) rfl rfl T n2 J (by show 1 ≤ 900; decide) fun H3 J3 => ost_next (C := C) rfl rfl T n3 J3 (by show 2 ≤ 900; decide) fun H4 J4 => k d H4 J4
end

/-! ### raise -/
def tRaise (t : L2.St → Hp → XK → Prop) (W : WX) : TS := fun _ σ H => t σ H fun cls d H' => W cls d σ H'
theorem ps_raiseN {X : Cx} {W : WX} {e : Expr} {t : L2.St → Hp → XK → Prop} {pos : Pos} (hc : X.calm = true) (tk : Takes X W) (he : PMk X e t) : PS X (.Raise (some e) none pos) (tRaise t W) := ps_raise hc tk he
/-- C(), C a class without an __init__ of its own -/
def tMk0 (C : Addr) : L2.St → Hp → XK → Prop := fun _ H Q => Q (.ref C) none H
theorem pmk_none {X : Cx} {C : Addr} {x : Str} {p pos : Pos} (q : PySem.W.excIn X.K C [.type "ValueError", .type "Exception", .type "BaseException", .type "object"] "ValueError.__new__" = true) (gC : X.mg x = some (.ref C)) (kC : PySem.W.keepIn X.K (.ref C) = true) (r : Raises X (.ref C)) (hg : Gl X x)
    (hdb : (x == ("__debug__" : Str)) = false := by decide) : PMk X (.Call (.Name x p) [] [] pos) (tMk0 C) := by
  intro pins s σ H Q I h
  refine wpAny_Call_Name_kw (ld_glob I hg gC ?_ hdb)
  refine PySem.W.callWith_K0 I.kIn kC ?_
  obtain ⟨bm, N, nm, qn, bs, hdct, sn, sub, ab, col, dd, k0, k1, k2, k3, k5, mN, hC, hN, hni, T⟩ := exc_obj I.kIn q
  refine wpAny_call_exc_subT PySem.F.excBase_ValueError T hC hN hni (fun h' e hm => ?_) (by show 0 ≤ sizeLine; exact Nat.zero_le _)
  exact mk_of I hm r h (I.hok.gone hm.new)
section
variable {K : PySem.W.Frag} {b : Bs} {ρ : List Sl} {ta : TA} {nx bk ct : List Sl → Prop} {rt : D → Prop} {E : XK} {X : Addr → List (Str × D) → Prop} {C : Addr}
theorem RpA.rev {H : Hp} : ∀ {vs : List V} {ds : List D}, RpA K H vs ds → RpA K H vs.reverse ds.reverse
  | _, _, .nil => .nil
  | _, _, .cons q r => by
    rw [List.reverse_cons, List.reverse_cons]
    exact r.rev.app (.cons q .nil)
theorem zip_keys {α : Type} : ∀ (ns : List Str) (xs : List α), xs.length = ns.length → (ns.zip xs).map (·.1) = ns ∧ (ns.zip xs).map (·.2) = xs
  | [], [], _ => ⟨rfl, rfl⟩
  | n :: ns, x :: xs, h => by
    obtain ⟨h1, h2⟩ := zip_keys ns xs (by simpa using h)
    exact ⟨by rw [List.zip_cons_cons, List.map_cons, h1], by rw [List.zip_cons_cons, List.map_cons, h2]⟩
  | [], _ :: _, h => by simp at h
  | _ :: _, [], h => by simp at h
theorem ds_raise {names : List Str} (hE : EL K b ρ (fun _ => E) X) (h : DA K b ρ ta fun ds => ds.length = names.length ∧ names.length ≤ 10 ∧ X C (names.zip ds).reverse) : DS K b ρ (tRaise (tMkO C (spInit C names) [] ta) (fun cls d _ H => E cls d H)) nx rt bk ct := fun Hf H σ D fr n r bk ct => by
  refine h Hf H σ _ fr fun vs ds Hf1 H1 e1 f1 r1 ⟨hl, hz, q⟩ => ?_
  have hv : vs.length = names.length := by rw [r1.len]; exact hl
  refine ⟨by omega, fun a ha => ?_⟩
  refine ⟨a, vs, by rw [List.append_nil], hv, upd_same, fun d H2 J => ⟨rfl, d, _, J.obj, J.dct, ?_, ?_⟩⟩
  · have q := J.new
    rw [upd_ne J.ne] at q
    exact q
  · have hd : H1 d = none := by
      have q := J.new
      rw [upd_ne J.ne] at q
      exact q
    have eq : upd (del H2 a) d (.xd (names.zip vs).reverse) = upd H1 d (.xd (names.zip vs).reverse) := by
      funext x
      by_cases z : x = d
      · subst z; rw [upd_same, upd_same]
      · rw [upd_ne z, upd_ne z]
        by_cases y : x = a
        · subst y; rw [del_same]; exact ha.symm
        · rw [del_ne y, J.old x y z, upd_ne y]
    rw [eq]
    refine hE _ _ σ (f1.put hd) C (names.zip ds).reverse (some d) ⟨_, upd_same, ?_, ?_⟩ q
    · rw [List.map_reverse, List.map_reverse, (zip_keys names vs hv).1, (zip_keys names ds hl).1]
    · rw [List.map_reverse, List.map_reverse, (zip_keys names vs hv).2, (zip_keys names ds hl).2]
      exact (r1.up (Ex.new (f1.ex.exF.no hd))).rev
theorem ds_raise0 (hE : EL K b ρ (fun _ => E) X) (h : X C []) : DS K b ρ (tRaise (tMk0 C) (fun cls d _ H => E cls d H)) nx rt bk ct := fun Hf H σ D fr n r bk ct =>
  hE Hf H σ fr C [] none rfl h
end

/-! ### try .. except C as n -/
/-- b' is b, what stands now readable for good -/
structure Sub (K : PySem.W.Frag) (b b' : Bs) : Prop where
  fm : ∀ Hf H σ ρ, Fm K b' Hf H σ ρ → Fm K b Hf H σ ρ
  ex : ∀ Hf H, Exit K b' Hf H → Exit K b Hf H
  M : b'.M = b.M
  T : b'.T = b.T
theorem Sub.refl {K : PySem.W.Frag} {b : Bs} : Sub K b b := ⟨fun _ _ _ _ h => h, fun _ _ h => h, rfl, rfl⟩
theorem EL.sub {K : PySem.W.Frag} {b b' : Bs} {ρ : List Sl} {E : L2.St → XK} {X : Addr → List (Str × D) → Prop} (s : Sub K b b') (h : EL K b ρ E X) : EL K b' ρ E X := fun Hf H σ fr => h Hf H σ (s.1 _ _ _ _ fr)
theorem Fm.rebase {K : PySem.W.Frag} {b : Bs} {Hf H : Hp} {σ : L2.St} {ρ : List Sl} (fr : Fm K b Hf H σ ρ) : Fm K { b with F := Hf } Hf H σ ρ ∧ Sub K b { b with F := Hf } ∧ (∀ Hf' H', Exit K { b with F := Hf } Hf' H' → Ex Hf Hf') := by
  have back : ∀ Hf' H', Exit K { b with F := Hf } Hf' H' → Exit K b Hf' H' := fun Hf' H' x => { exF := x.exF, ex0 := fr.ex.ex0.trans x.ex0, exB := x.exB, frz := fun a h1 h2 => x.frz a h1 (fr.ex.frz a h1 h2), pens := x.pens, tabs := x.tabs }
  refine ⟨{ ex := { exF := fr.ex.exF, ex0 := Ex.refl _, exB := fr.ex.exB, frz := fun a _ h => h, pens := fr.ex.pens, tabs := fr.ex.tabs }, len := fr.len, sl := fr.sl, mine := fr.mine, sep := fr.sep }, ⟨fun Hf' H' σ' ρ' f => ?_, back, rfl, rfl⟩, fun Hf' H' x => x.ex0⟩
  exact { ex := back _ _ f.ex, len := f.len, sl := f.sl, mine := f.mine, sep := f.sep }
def tTryAs (K : PySem.W.Frag) (c : Value) (i : Nat) (tb : WX → TS) (ts : Addr → Value → Option Addr → TS) (Wout : WX) : TS := fun D σ H => tb (wAs K c i ts Wout D) D σ H
theorem ds_try {K : PySem.W.Frag} {b : Bs} {ρ : List Sl} {nx bk ct : List Sl → Prop} {rt : D → Prop} {c : Value} {i : Nat} {tb : WX → TS} {ts : Addr → Value → Option Addr → TS} {Wout : WX} (Xb : Addr → List (Str × D) → Prop) (hi : ∀ d, ρ[i]? ≠ some (.ow d))
    (hb : ∀ (b' : Bs) (W : WX), Sub K b b' → EL K b' ρ (fun σ => WE W σ) Xb → DS K b' ρ (tb W) nx rt bk ct)
    (hs : ∀ (b' : Bs) (C : Addr) (fs : List (Str × D)), Sub K b b' → Xb C fs → PySem.W.exmOne K (.ref C) c = some true ∧ ∀ (a : Addr) (d : Option Addr), DS K b' (ρ.set i (.sh (.exc a d C fs))) (ts a (.ref C) d) (fun ρ2 => nx (ρ2.set i .no)) rt (fun ρ2 => bk (ρ2.set i .no)) (fun ρ2 => ct (ρ2.set i .no))) :
    DS K b ρ (tTryAs K c i tb ts Wout) nx rt bk ct := fun Hf H σ D fr n r bk ct => by
  obtain ⟨fr', sub, lo⟩ := fr.rebase
  refine hb { b with F := Hf } (wAs K c i ts Wout D) sub (fun Hf1 H1 σ1 f1 C fs d hx q => ?_) Hf H σ D fr' (fun ρ2 σ2 Hf2 H2 e2 f2 q2 => n ρ2 σ2 Hf2 H2 e2 (sub.1 _ _ _ _ f2) q2) (fun v d Hf2 H2 e2 x2 r2 q2 => r v d Hf2 H2 e2 (sub.2 _ _ x2) r2 q2)
    (fun ρ2 σ2 Hf2 H2 e2 f2 q2 => bk ρ2 σ2 Hf2 H2 e2 (sub.1 _ _ _ _ f2) q2) (fun ρ2 σ2 Hf2 H2 e2 f2 q2 => ct ρ2 σ2 Hf2 H2 e2 (sub.1 _ _ _ _ f2) q2)
  obtain ⟨hm, hs⟩ := hs { b with F := Hf } C fs sub q
  have e1 := lo _ _ f1.ex
  refine ⟨true, hm, fun _ a ha => ?_, fun z => nomatch z⟩
  refine hs a d Hf1 H1 _ _ (f1.set (hx.rp a C)) (fun ρ2 σ2 Hf2 H2 e2 f2 q2 => ?_) (fun v d' Hf2 H2 e2 x2 r2 q2 => r v d' Hf2 H2 (e1.trans e2) (sub.2 _ _ x2) r2 q2) (fun ρ2 σ2 Hf2 H2 e2 f2 q2 => ?_) (fun ρ2 σ2 Hf2 H2 e2 f2 q2 => ?_)
  · exact n _ _ Hf2 H2 (e1.trans e2) (sub.1 _ _ _ _ f2).drop q2
  · exact bk _ _ Hf2 H2 (e1.trans e2) (sub.1 _ _ _ _ f2).drop q2
  · exact ct _ _ Hf2 H2 (e1.trans e2) (sub.1 _ _ _ _ f2).drop q2
end G

set_option Elab.async false
set_option linter.all false
set_option maxRecDepth 100000
set_option maxHeartbeats 4000000
/-! DFacts: what the written part says of the package's error classes, and what follows. -/
namespace G
open PySem PySem.Spec PyProof.Rows L2
abbrev veT : List Value := [.type "ValueError", .type "Exception", .type "BaseException", .type "object"]
/-- an error class at C with the chain bm behind it -/
structure ErrK (K : PySem.W.Frag) (C : Addr) (bm : List Value) : Prop where
  cls : ∃ nm q N bs sn sub ab col dd k0 k1 k2 k3 k5, K.lookup C = some (excClassObj nm q C N bs bm true sn sub ab col dd k0 k1 k2 k3 k5 "ValueError.__new__")
  sa : PySem.W.findIn K (.ref C) "__setattr__" = some (some (.builtin "object.__setattr__"))
  ga : PySem.W.findIn K (.ref C) "__getattribute__" = some (some (.builtin "BaseException.__getattribute__"))
  gg : PySem.W.findIn K (.ref C) "__getattr__" = some none
  ka : PySem.W.findIn K (.ref C) "__class__" = some (some (.builtin "object.__class__"))
  kp : PySem.W.keepIn K (.ref C) = true
structure ErrB (K : PySem.W.Frag) : Prop where
  kn : PySem.W.specialIn K (.builtin "object.__class__") "__get__" = some (some (.builtin "getset_descriptor.__get__"))
  kt : PySem.W.takesIn K (.builtin "object.__class__") = some true
section
variable {K : PySem.W.Frag} {C G C' : Addr} {bm bm' : List Value}
theorem ErrK.data (h : ErrK K C bm) : ∃ cd, PySem.W.clsIn K C = some cd ∧ cd.mro = .ref C :: bm ∧ cd.hasDict = true := by
  obtain ⟨nm, q, N, bs, sn, sub, ab, col, dd, k0, k1, k2, k3, k5, e⟩ := h.cls
  refine ⟨{ name := nm, bases := bs, mro := .ref C :: bm, ns := N, qualname := q, hasDict := true, slotNames := sn, subclasses := sub, abstract := ab, collection := col, hasDel := false }, ?_, rfl, rfl⟩
  unfold PySem.W.clsIn
  rw [e]
theorem ErrK.ty (h : ErrK K C bm) : PySem.W.typeIn K (.ref C) = some (.type "type") := by
  obtain ⟨nm, q, N, bs, sn, sub, ab, col, dd, k0, k1, k2, k3, k5, e⟩ := h.cls
  show (K.lookup C).map (·.cls) = _
  rw [e]
  rfl
theorem ErrK.sub (h : ErrK K C bm) (c : Value) : PySem.W.subIn K (.ref C) c = some ((Value.ref C :: bm).contains c) := by
  obtain ⟨cd, e, m, _⟩ := h.data
  show PySem.W.mroIn K C c = _
  unfold PySem.W.mroIn
  rw [e]
  show (if cd.mro.isEmpty = true then none else some (cd.mro.contains c)) = _
  rw [m]
  rfl
theorem ErrK.dict (h : ErrK K C bm) : PySem.W.hasDictIn K C = true := by
  obtain ⟨cd, e, _, d⟩ := h.data
  unfold PySem.W.hasDictIn
  rw [e]
  simp [d]
theorem ErrK.xc (h : ErrK K C bm) (hb : ErrB K) (hv : PySem.HandSPX.refsVE bm = true) : XcC K C := by
  obtain ⟨cd, e, m, d⟩ := h.data
  have c1 : (Value.ref C :: bm).contains (.type "BaseException") = true := (PySem.HandSPX.refsVE_contains "BaseException" (.ref C :: bm) hv).trans (by decide +kernel)
  have c2 : (Value.ref C :: bm).contains (.type "object") = true := (PySem.HandSPX.refsVE_contains "object" (.ref C :: bm) hv).trans (by decide +kernel)
  refine { cl := by rw [e]; rfl, ga := h.ga, gg := h.gg, sb := by rw [h.sub, c1], hd := h.dict, ka := h.ka, kn := hb.kn, kt := hb.kt, km := ?_ }
  have := h.sub (.type "object")
  rw [c2] at this
  exact this
theorem ErrK.oex (h : ErrK K C bm) (hv : PySem.HandSPX.refsVE bm = true) : OexC K C := by
  have c1 : (Value.ref C :: bm).contains (.type "BaseException") = true := (PySem.HandSPX.refsVE_contains "BaseException" (.ref C :: bm) hv).trans (by decide +kernel)
  obtain ⟨nm, q, N, bs, sn, sub, ab, col, dd, k0, k1, k2, k3, k5, e⟩ := h.cls
  exact { cls := ⟨nm, q, N, bs, bm, sn, sub, ab, col, dd, k0, k1, k2, k3, k5, e, hv⟩, sa := h.sa, exC := by rw [h.sub, c1], tyC := h.ty, kC := h.kp }
theorem ErrK.raises (h : ErrK K C bm) (hv : PySem.HandSPX.refsVE bm = true) : PySem.W.subIn K (.ref C) (.type "BaseException") = some true := (h.oex hv).exC
/-- isinstance of an error of the class at C -/
theorem ErrK.kit (h : ErrK K C bm) (h' : ErrK K C' bm') : PySem.W.kitOne K (.ref C) (.ref C') = some ((Value.ref C :: bm).contains (.ref C')) := by
  unfold PySem.W.kitOne
  by_cases e : (Value.ref C == Value.ref C') = true
  · rw [if_pos e]
    have z : Value.ref C = Value.ref C' := beq_iff_eq.mp e
    rw [← z]
    simp
  · rw [if_neg e]
    obtain ⟨cd, e', _, _⟩ := h'.data
    show (if ((PySem.W.clsIn K C').isSome && PySem.W.typeIn K (.ref C') == some (.type "type")) = true then PySem.W.subIn K (.ref C) (.ref C') else none) = _
    rw [if_pos (by rw [e', h'.ty] <;> rfl), h.sub]
theorem ErrK.kitT (h : ErrK K C bm) (hv : PySem.HandSPX.refsVE bm = true) : PySem.W.kitOne K (.ref C) (.type "ValueError") = some true := by
  have c1 : (Value.ref C :: bm).contains (.type "ValueError") = true := (PySem.HandSPX.refsVE_contains "ValueError" (.ref C :: bm) hv).trans (by decide +kernel)
  unfold PySem.W.kitOne
  rw [if_neg (by simp)]
  show (if PySem.W.kitMeta "ValueError" = true then PySem.W.subIn K (.ref C) (.type "ValueError") else none) = _
  rw [if_pos (by decide +kernel), h.sub, c1]
theorem ErrK.exm (h : ErrK K C bm) (h' : ErrK K C' bm') (hv : PySem.HandSPX.refsVE bm' = true) : PySem.W.exmOne K (.ref C) (.ref C') = some ((Value.ref C :: bm).contains (.ref C')) := by
  obtain ⟨cd, e', _, _⟩ := h'.data
  show (if (PySem.W.subIn K (.ref C') (.type "BaseException") == some true) = true then (if ((PySem.W.clsIn K C').isSome && PySem.W.typeIn K (.ref C') == some (.type "type")) = true then PySem.W.subIn K (.ref C) (.ref C') else none) else none) = _
  rw [if_pos (by rw [h'.raises hv] <;> rfl), if_pos (by rw [e', h'.ty] <;> rfl), h.sub]
theorem contains_other (hne : C ≠ C') (hg : G ≠ C') : (Value.ref C :: .ref G :: veT).contains (.ref C') = false := by
  rw [List.contains_cons, List.contains_cons]
  have e1 : (Value.ref C' == Value.ref C) = false := by
    rw [beq_eq_false_iff_ne]
    exact fun z => hne (Value.ref.inj z).symm
  have e2 : (Value.ref C' == Value.ref G) = false := by
    rw [beq_eq_false_iff_ne]
    exact fun z => hg (Value.ref.inj z).symm
  rw [e1, e2]
  rfl
theorem contains_self : (Value.ref C :: .ref G :: veT).contains (.ref C) = true := by simp
theorem contains_base : (Value.ref C :: .ref G :: veT).contains (.ref G) = true := by simp
theorem vees : PySem.HandSPX.refsVE (.ref G :: veT) = true := by show PySem.HandSPX.refsVE veT = true; decide +kernel
theorem vees0 : PySem.HandSPX.refsVE veT = true := by decide +kernel
end
end G

set_option Elab.async false
set_option linter.all false
set_option maxRecDepth 100000
set_option maxHeartbeats 4000000
/-! DOps2: + of any kind, // and % of great ints, list(..), tuple(..), small dicts; the pen. -/
namespace G
open PySem PySem.Spec PyProof.Rows L2
def rAddS : R2 := fun x y H Q => ∃ i j, x = .str i ∧ y = .str j ∧ i.length + j.length ≤ sizeLine ∧ Q (.str (i ++ j)) H
def rAddG (K : PySem.W.Frag) : R2 := fun x y H Q => rI0 (fun i j => .int (i + j)) x y H Q ∨ rAddS x y H Q ∨ rCat x y H Q ∨ rCatA K x y H Q
theorem op_addG {X : Cx} : OpR X (binaryOp .Add) (rAddG X.K) := op_add.or ((show OpR X (binaryOp .Add) rAddS from op_add_str).or (op_cat.or op_catA))
def CDivA (_ j : Int) : Prop := j ≠ 0 ∧ j.natAbs.log2 < 9000
theorem op_fdivG {X : Cx} : OpR X (binaryOp .FloorDiv) (rI CDivA fun i j => .int (i.fdiv j)) := opI fun _ _ _ _ _ _ _ hc q => floordiv_int hc.1 q (.inl (PyProof.noPylong_of_log2 hc.2))
theorem op_mulG {X : Cx} : OpR X (binaryOp .Mult) (rI IntMulOk fun i j => .int (i * j)) := opI fun _ _ _ _ _ _ _ hc q => mul_int q hc
theorem mul_small {i j : Int} (h : CMul i j) : IntMulOk i j := h.ok
theorem mul_wide {i j : Int} (h : CMulW i j) : IntMulOk i j := h.ok
section
variable {K : PySem.W.Frag} {b : Bs} {ρ : List Sl} {ta tb te tc : TE} {tr : TA} {Q : D → Prop}
theorem DE.orL {r r' : R2} (h : DE K b ρ (tOp r ta tb) Q) : DE K b ρ (tOp (fun x y H Q => r x y H Q ∨ r' x y H Q) ta tb) Q → True := fun _ => trivial
theorem de_addI (h : DE K b ρ ta fun x => DE K b ρ tb fun y => ∃ i j, x = .int i ∧ y = .int j ∧ Q (.int (i + j))) : DE K b ρ (tOp (rAddG K) ta tb) Q :=
  de_op (h.imp fun x hx => hx.imp fun y ⟨i, j, e1, e2, q⟩ Hf H σ k v u f rv ru c => by
    subst e1; subst e2
    exact Or.inl ⟨i, j, rv.int_inv, ru.int_inv, c _ _ Hf H Up.refl f (.int _) q⟩)
theorem de_addS (h : DE K b ρ ta fun x => DE K b ρ tb fun y => ∃ i j, x = .str i ∧ y = .str j ∧ i.length + j.length ≤ 100000 ∧ Q (.str (i ++ j))) : DE K b ρ (tOp (rAddG K) ta tb) Q :=
  de_op (h.imp fun x hx => hx.imp fun y ⟨i, j, e1, e2, hz, q⟩ Hf H σ k v u f rv ru c => by
    subst e1; subst e2
    exact Or.inr (Or.inl ⟨i, j, rv.str_inv, ru.str_inv, small_line hz, c _ _ Hf H Up.refl f (.str _) q⟩))
theorem dn_addL {R : List D → Prop} (h : DE K b ρ ta fun x => DE K b ρ tb fun y => ∃ l m, x = .lst l ∧ y = .lst m ∧ l.length + m.length ≤ 16000 ∧ R (l ++ m)) : DN K b ρ (tOp (rAddG K) ta tb) R := fun Hf H σ k fr c => by
  refine h Hf H σ _ fr fun v x Hf1 H1 e1 f1 r1 q1 => ?_
  refine q1 Hf1 H1 σ _ f1 fun u y Hf2 H2 e2 f2 r2 ⟨l, m, ex, ey, hz, q⟩ => ?_
  subst ex
  subst ey
  cases r1 with
  | lst h1 a1 =>
    cases r2 with
    | lst h2 a2 =>
      refine Or.inr (Or.inr (Or.inl ⟨_, _, _, _, rfl, rfl, f2.ex.exF _ _ (e2.1 _ _ h1), f2.ex.exF _ _ h2, small_line (by rw [a1.len, a2.len]; omega), fun p hp => ?_⟩))
      exact c p _ _ Hf2 H2 (e1.trans e2) f2 hp ((a1.up e2.1).app a2) q
theorem dn_addL_own {R : List D → Prop} {i : Nat} {l : List D} (hi : ρ[i]? = some (.ow l)) (h : DE K b ρ tb fun y => ∃ m, y = .lst m ∧ l.length + m.length ≤ 16000 ∧ R (l ++ m)) : DN K b ρ (tOp (rAddG K) (tVar i) tb) R := fun Hf H σ k fr c => by
  obtain ⟨a, xs, ho, h1, h2, h3⟩ := own_at fr hi
  refine ⟨_, ho, ?_⟩
  refine h Hf H σ _ fr fun u y Hf2 H2 e2 f2 r2 ⟨m, ey, hz, q⟩ => ?_
  subst ey
  obtain ⟨a', ys, ho', k1, k2, k3⟩ := own_at f2 hi
  rw [ho] at ho'
  cases ho'
  cases r2 with
  | lst h4 a4 =>
    refine Or.inr (Or.inr (Or.inl ⟨_, _, _, _, rfl, rfl, k2, f2.ex.exF _ _ h4, small_line (by rw [k3.len, a4.len]; omega), fun p hp => ?_⟩))
    exact c p _ _ Hf2 H2 e2 f2 hp (k3.app a4) q
theorem de_addA (h : DE K b ρ ta fun x => DE K b ρ tb fun y => ∃ l m, x = .tup l ∧ y = .tup m ∧ l.length + m.length ≤ 16000 ∧ Q (.tup (l ++ m))) : DE K b ρ (tOp (rAddG K) ta tb) Q := fun Hf H σ k fr c => by
  refine h Hf H σ _ fr fun v x Hf1 H1 e1 f1 r1 q1 => ?_
  refine q1 Hf1 H1 σ _ f1 fun u y Hf2 H2 e2 f2 r2 ⟨l, m, ex, ey, hz, q⟩ => ?_
  subst ex
  subst ey
  cases r1 with
  | tup h1 a1 =>
    cases r2 with
    | tup h2 a2 =>
      refine Or.inr (Or.inr (Or.inr ⟨_, _, _, _, rfl, rfl, f2.ex.exF.st (e2.1.st h1), f2.ex.exF.st h2, small_line (by rw [a1.len, a2.len]; omega), fun z => ?_, fun _ z => ?_, fun _ z p hp => ?_⟩))
      · subst z
        cases a1
        exact c _ _ Hf2 H2 (e1.trans e2) f2 (.tup h2 a2) q
      · subst z
        cases a2
        rw [List.append_nil] at q
        exact c _ _ Hf2 H2 (e1.trans e2) f2 (.tup (e2.1.st h1) (a1.up e2.1)) q
      · have n := f2.ex.exF.no hp
        exact c _ _ _ _ ((e1.trans e2).trans (Up.new hp n)) (f2.put hp) (Rp.tup (SqT.of upd_same) (RpA.up (Ex.new n) ((a1.up e2.1).app a2))) q
theorem de_addT (h : DE K b ρ ta fun x => DE K b ρ tb fun y => ∃ l m, x = .tup l ∧ y = .tup m ∧ l ≠ [] ∧ l.length + m.length ≤ 16000 ∧ Q (.tup (l ++ m))) : DE K b ρ (tOp (rAddG K) ta tb) Q :=
  de_addA (h.imp fun x hx => hx.imp fun y ⟨l, m, e1, e2, _, hz, q⟩ => ⟨l, m, e1, e2, hz, q⟩)
/-! ### list(x), tuple(x) -/
def rListV (K : PySem.W.Frag) : List V → Hp → VK → Prop := fun xs H Q => ∃ p ys, xs = [.ref p] ∧ (SqL K H p ys ∨ SqT K H p ys) ∧ ∀ l, H l = none → Q (.ref l) (upd H l (.lst ys))
theorem call_listV {X : Cx} : CallR X (.type "list") (rListV X.K) := call_list_of
def rTupV (K : PySem.W.Frag) : List V → Hp → VK → Prop := fun xs H Q => ∃ p ys, xs = [.ref p] ∧ ((SqL K H p ys ∧ ∀ l, H l = none → Q (.ref l) (upd H l (.tup ys))) ∨ (SqT K H p ys ∧ Q (.ref p) H))
theorem call_tupleV {X : Cx} : CallR X (.type "tuple") (rTupV X.K) := call_tuple_of
theorem dn_list {R : List D → Prop} (h : DE K b ρ ta fun x => ∃ l, seqD x = some l ∧ R l) : DN K b ρ (tCB (rListV K) (tCons ta tNil)) R := fun Hf H σ k fr c => by
  refine h Hf H σ _ fr fun v x Hf1 H1 e1 f1 r1 ⟨l, el, q⟩ => ?_
  cases r1 with
  | tup h1 a1 =>
    cases el
    exact ⟨_, _, rfl, Or.inr (f1.ex.exF.st h1), fun p hp => c p _ _ Hf1 H1 e1 f1 hp a1 q⟩
  | lst h1 a1 =>
    cases el
    exact ⟨_, _, rfl, Or.inl (SqL.of (f1.ex.exF _ _ h1)), fun p hp => c p _ _ Hf1 H1 e1 f1 hp a1 q⟩
  | non => cases el
  | bl _ => cases el
  | int _ => cases el
  | str _ => cases el
  | ty _ => cases el
  | fn _ => cases el
  | dic _ _ _ => cases el
  | obj _ _ _ => cases el
  | exc _ _ _ => cases el
  | exc0 _ _ => cases el
theorem de_tuple (h : DE K b ρ ta fun x => ∃ l, seqD x = some l ∧ Q (.tup l)) : DE K b ρ (tCB (rTupV K) (tCons ta tNil)) Q := fun Hf H σ k fr c => by
  refine h Hf H σ _ fr fun v x Hf1 H1 e1 f1 r1 ⟨l, el, q⟩ => ?_
  cases r1 with
  | tup h1 a1 =>
    cases el
    exact ⟨_, _, rfl, Or.inr ⟨f1.ex.exF.st h1, c _ _ Hf1 H1 e1 f1 (.tup h1 a1) q⟩⟩
  | lst h1 a1 =>
    cases el
    refine ⟨_, _, rfl, Or.inl ⟨SqL.of (f1.ex.exF _ _ h1), fun p hp => ?_⟩⟩
    have n := f1.ex.exF.no hp
    exact c _ _ _ _ (e1.trans (Up.new hp n)) (f1.put hp) (Rp.tup (SqT.of upd_same) (RpA.up (Ex.new n) a1)) q
  | non => cases el
  | bl _ => cases el
  | int _ => cases el
  | str _ => cases el
  | ty _ => cases el
  | fn _ => cases el
  | dic _ _ _ => cases el
  | obj _ _ _ => cases el
  | exc _ _ _ => cases el
  | exc0 _ _ => cases el
/-- tuple of a list that is made for it -/
theorem de_tupN {l : List D → Prop} (h : DN K b ρ ta fun l => Q (.tup l)) : DE K b ρ (tCB (rTupV K) (tCons ta tNil)) Q :=
  de_tuple (de_new (by
    intro Hf H σ k fr c
    refine h Hf H σ k fr fun p xs ds Hf' H' e f hp r q => ?_
    exact c p xs ds Hf' H' e f hp r ⟨ds, rfl, q⟩))
/-- an object that is being filled -/
theorem Fm.lay {Hf H : Hp} {σ : L2.St} (fr : Fm K b Hf H σ ρ) {p : Addr} {o : HO} (hp : H p = none) : Fm K b Hf (upd H p o) σ ρ := by
  refine fr.step { exF := fr.ex.exF.trans (Ex.new hp), ex0 := fr.ex.ex0, exB := fr.ex.exB.trans (Ex.new hp), frz := fr.ex.frz, pens := fun q hq => ?_, tabs := fun q hq => ?_ } (Ex.refl _) fun a xs h1 h2 _ _ => ⟨h2, ?_⟩
  · obtain ⟨h1, h2, ob, h3, h4⟩ := fr.ex.pens q hq
    exact ⟨h1, h2, ob, (upd_ne (ne_of_none h3 hp)).trans h3, h4⟩
  · obtain ⟨h1, h2, h3, h4⟩ := fr.ex.tabs q hq
    exact ⟨h1, h2, h3, h4.up (Ex.refl _) (upd_ne (h4.ne (Or.inl hp)))⟩
  · exact (upd_ne (ne_of_none h1 hp)).trans h1
theorem Fm.fill {Hf H : Hp} {σ : L2.St} (fr : Fm K b Hf H σ ρ) {p : Addr} {o1 o : HO} (hp : H p = some o1) (hn : ∀ xs, o1 ≠ .lst xs) (hn2 : ∀ ps, o1 ≠ .tbl ps) (hf : Hf p = none) (hb : b.B p = none) (hm : p ∉ b.M) : Fm K b (upd Hf p o) (upd H p o) σ ρ := by
  have e := Ex.new (o := o) hf
  refine fr.step { exF := fr.ex.exF.up, ex0 := fr.ex.ex0.trans e, exB := fun a u h => ?_, frz := fun a h1 h2 => ?_, pens := fun q hq => ?_, tabs := fun q hq => ?_ } e fun a xs h1 h2 _ _ => ?_
  · rw [upd_ne (ne_of_none h hb)]; exact fr.ex.exB a u h
  · rw [upd_ne (fun z => h1 (by rw [z]; exact hb))]; exact fr.ex.frz a h1 h2
  · obtain ⟨h1, h2, ob, h3, h4⟩ := fr.ex.pens q hq
    have n : q ≠ p := fun z => hm (by rw [← z]; exact hq)
    exact ⟨by rw [upd_ne n]; exact h1, h2, ob, by rw [upd_ne n]; exact h3, h4.up e⟩
  · obtain ⟨h1, h2, h3, h4⟩ := fr.ex.tabs q hq
    have n : q.1 ≠ p := fun z => by
      obtain ⟨ps, h5, _⟩ := h4
      rw [z, hp] at h5
      exact hn2 ps (Option.some.inj h5)
    exact ⟨by rw [upd_ne n]; exact h1, h2, h3, h4.up e (upd_ne n)⟩
  · have n : a ≠ p := fun z => by
      rw [z, hp] at h1
      exact hn xs (Option.some.inj h1)
    rw [upd_ne n, upd_ne n]
    exact ⟨h2, h1⟩
/-- {'k': v} -/
theorem de_disp1 {x : Str} (h : DE K b ρ ta fun d => Q (.dic [(Sum.inr x, d)])) : DE K b ρ (tDisp [(tC (.str x), ta)]) Q := fun Hf H σ k fr c => by
  intro p hp
  have np := fr.ex.exF.no hp
  have nb := fr.ex.exB.no hp
  have nm : p ∉ b.M := fun z => by
    obtain ⟨_, _, o, h3, _⟩ := fr.ex.pens p z
    rw [hp] at h3; cases h3
  show ta σ (upd H p (.dK [])) _
  refine h Hf _ σ _ (fr.lay hp) fun v d Hf1 H1 e1 f1 r1 q => ?_
  have nt : ¬ b.mt p := fun z => z.elim nm fun z => by
    obtain ⟨q, hq, e⟩ := List.mem_map.mp z
    obtain ⟨_, _, _, h4⟩ := fr.ex.tabs q hq
    exact h4.ne (Or.inl hp) e
  obtain ⟨k1, k2⟩ := e1.2 p _ upd_same nt
  refine ⟨k1, [(Sum.inr x, v)], rfl, by show 1 ≤ 15; decide, ?_⟩
  have m : mergeK [] [((Sum.inr x : Key), v)] = [((Sum.inr x : Key), v)] := rfl
  rw [m]
  have n1 := k2 np
  refine c _ _ (upd Hf1 p (.dK [(Sum.inr x, v)])) _ ⟨e1.1.trans (Ex.new n1), fun a o ha hm => ?_⟩ (f1.fill k1 (fun xs z => by cases z) (fun xs z => by cases z) n1 nb nm) (Rp.dic upd_same rfl (.cons (r1.up (Ex.new n1)) .nil)) q
  have n : a ≠ p := ne_of_none ha hp
  obtain ⟨z1, z2⟩ := e1.2 a o (by rw [upd_ne n]; exact ha) hm
  rw [upd_ne n, upd_ne n]
  exact ⟨z1, z2⟩
end
end G

set_option Elab.async false
set_option linter.all false
set_option maxRecDepth 100000
set_option maxHeartbeats 4000000
/-! DPen: == and != of any kind; the pen: made, drawn from. -/
namespace G
open PySem PySem.Spec PyProof.Rows L2
/-- two lists of unlike lengths -/
def rEqLen (K : PySem.W.Frag) : R2 := fun x y H Q => ∃ a b xs ys, x = .ref a ∧ y = .ref b ∧ SqL K H a xs ∧ SqL K H b ys ∧ xs.length ≠ ys.length ∧ Q (.bl false) H
theorem op_eqLen {X : Cx} (hu : X.A.units < cLine) : OpR X (compareOp .Eq) (rEqLen X.K) := by
  intro pins s σ H x y v u Q I rx ry h
  obtain ⟨a, b, xs, ys, rfl, rfl, ha, hb, hn, q⟩ := h
  cases rx
  cases ry
  obtain ⟨its, r1, p1, _⟩ := I.list ha
  obtain ⟨its2, r2, p2, _⟩ := I.list hb
  have l1 := r1.length
  have l2 := r2.length
  exact PySem.SeqAt.eq_list_lengthsAt p1.isList p2.isList (by simp; omega) hu ⟨.bl false, H, I, rfl, q⟩
def rEqG (K : PySem.W.Frag) : R2 := fun x y H Q => rEq x y H Q ∨ rEqD K x y H Q ∨ rEqLen K x y H Q
def rNeG (K : PySem.W.Frag) : R2 := fun x y H Q => rNe x y H Q ∨ rNeD K x y H Q
theorem op_eqG {X : Cx} (hu : X.A.units + 64 < cLine) : OpR X (compareOp .Eq) (rEqG X.K) := op_eq.or ((op_eqD hu).or (op_eqLen (by omega)))
theorem op_neG {X : Cx} (hu : X.A.units + 64 < cLine) : OpR X (compareOp .NotEq) (rNeG X.K) := op_ne.or (op_neD hu)
section
variable {K : PySem.W.Frag} {b : Bs} {ρ : List Sl} {ta tb te tc : TE} {tr : TA} {Q : D → Prop}
theorem de_eqI (h : DE K b ρ ta fun x => DE K b ρ tb fun y => ∃ i j, x = .int i ∧ y = .int j ∧ Q (.bl (decide (i = j)))) : DE K b ρ (tOp (rEqG K) ta tb) Q :=
  de_op (h.imp fun x hx => hx.imp fun y ⟨i, j, e1, e2, q⟩ Hf H σ k v u f rv ru c => by
    subst e1; subst e2
    have a := rv.int_inv; subst a
    have a := ru.int_inv; subst a
    refine Or.inl ⟨rfl, ?_⟩
    have e : decide (V.int i = V.int j) = decide (i = j) := by rw [dec_int]; exact (Bool.beq_eq_decide_eq i j)
    rw [e]
    exact c _ _ Hf H Up.refl f (.bl _) q)
theorem de_neI (h : DE K b ρ ta fun x => DE K b ρ tb fun y => ∃ i j, x = .int i ∧ y = .int j ∧ Q (.bl (!decide (i = j)))) : DE K b ρ (tOp (rNeG K) ta tb) Q :=
  de_op (h.imp fun x hx => hx.imp fun y ⟨i, j, e1, e2, q⟩ Hf H σ k v u f rv ru c => by
    subst e1; subst e2
    have a := rv.int_inv; subst a
    have a := ru.int_inv; subst a
    refine Or.inl ⟨rfl, ?_⟩
    have e : decide (V.int i = V.int j) = decide (i = j) := by rw [dec_int]; exact (Bool.beq_eq_decide_eq i j)
    rw [e]
    exact c _ _ Hf H Up.refl f (.bl _) q)
theorem dec_strV (i j : Str) : decide (V.str i = V.str j) = decide (i = j) := by
  by_cases e : i = j
  · subst e; simp
  · rw [decide_eq_false e, decide_eq_false (fun z => e (V.str.inj z))]
theorem de_eqS (h : DE K b ρ ta fun x => DE K b ρ tb fun y => ∃ i j, x = .str i ∧ y = .str j ∧ Q (.bl (decide (i = j)))) : DE K b ρ (tOp (rEqG K) ta tb) Q :=
  de_op (h.imp fun x hx => hx.imp fun y ⟨i, j, e1, e2, q⟩ Hf H σ k v u f rv ru c => by
    subst e1; subst e2
    have a := rv.str_inv; subst a
    have a := ru.str_inv; subst a
    refine Or.inl ⟨rfl, ?_⟩
    rw [dec_strV]
    exact c _ _ Hf H Up.refl f (.bl _) q)
theorem de_neS (h : DE K b ρ ta fun x => DE K b ρ tb fun y => ∃ i j, x = .str i ∧ y = .str j ∧ Q (.bl (!decide (i = j)))) : DE K b ρ (tOp (rNeG K) ta tb) Q :=
  de_op (h.imp fun x hx => hx.imp fun y ⟨i, j, e1, e2, q⟩ Hf H σ k v u f rv ru c => by
    subst e1; subst e2
    have a := rv.str_inv; subst a
    have a := ru.str_inv; subst a
    refine Or.inl ⟨rfl, ?_⟩
    rw [dec_strV]
    exact c _ _ Hf H Up.refl f (.bl _) q)
theorem de_eqA (h : DE K b ρ ta fun x => DE K b ρ tb fun y => okD x = true ∧ okD y = true ∧ Q (.bl (eqD x y))) : DE K b ρ (tOp (rEqG K) ta tb) Q :=
  de_op (h.imp fun x hx => hx.imp fun y ⟨o1, o2, q⟩ Hf H σ k v u f rv ru c => by
    obtain ⟨a1, a2, a3⟩ := okD_un o1
    obtain ⟨b1, b2, b3⟩ := okD_un o2
    exact Or.inr (Or.inl ⟨x.py, y.py, (rv.up f.ex.exF).dp a1 a2, (ru.up f.ex.exF).dp b1 b2, a3, b3, c _ _ Hf H Up.refl f (.bl _) q⟩))
theorem de_eqLen (h : DE K b ρ ta fun x => DE K b ρ tb fun y => ∃ l m, x = .lst l ∧ y = .lst m ∧ l.length ≠ m.length ∧ Q (.bl false)) : DE K b ρ (tOp (rEqG K) ta tb) Q :=
  de_op (h.imp fun x hx => hx.imp fun y ⟨l, m, e1, e2, hn, q⟩ Hf H σ k v u f rv ru c => by
    subst e1; subst e2
    cases rv with
    | lst h1 a1 =>
      cases ru with
      | lst h2 a2 => exact Or.inr (Or.inr ⟨_, _, _, _, rfl, rfl, SqL.of (f.ex.exF _ _ h1), SqL.of (f.ex.exF _ _ h2), by rw [a1.len, a2.len]; exact hn, c _ _ Hf H Up.refl f (.bl _) q⟩))
theorem de_neA (h : DE K b ρ ta fun x => DE K b ρ tb fun y => okD x = true ∧ okD y = true ∧ Q (.bl (!eqD x y))) : DE K b ρ (tOp (rNeG K) ta tb) Q :=
  de_op (h.imp fun x hx => hx.imp fun y ⟨o1, o2, q⟩ Hf H σ k v u f rv ru c => by
    obtain ⟨a1, a2, a3⟩ := okD_un o1
    obtain ⟨b1, b2, b3⟩ := okD_un o2
    exact Or.inr ⟨x.py, y.py, (rv.up f.ex.exF).dp a1 a2, (ru.up f.ex.exF).dp b1 b2, a3, b3, c _ _ Hf H Up.refl f (.bl _) q⟩)
end
/-! ### the pen -/
def penL (c : Addr) (a d n f : Int) : List (Key × V) := [(Sum.inr "cells", .ref c), (Sum.inr "at", .int a), (Sum.inr "digits", .int d), (Sum.inr "count", .int n), (Sum.inr "fold", .int f)]
section
variable {c p : Addr} {a d n f : Int} {H Hf : Hp} {K : PySem.W.Frag} {σ : L2.St} {Q : VK} {D : Ends}
theorem v_cells : valV (penL c a d n f) (Sum.inr "cells") = some (.ref c) := rfl
theorem v_at : valV (penL c a d n f) (Sum.inr "at") = some (.int a) := rfl
theorem v_digits : valV (penL c a d n f) (Sum.inr "digits") = some (.int d) := rfl
theorem v_count : valV (penL c a d n f) (Sum.inr "count") = some (.int n) := rfl
theorem v_fold : valV (penL c a d n f) (Sum.inr "fold") = some (.int f) := rfl
theorem p_at (x : Int) : putK (penL c a d n f) (Sum.inr "at") (.int x) = penL c x d n f := rfl
theorem p_digits (x : Int) : putK (penL c a d n f) (Sum.inr "digits") (.int x) = penL c a x n f := rfl
theorem p_count (x : Int) : putK (penL c a d n f) (Sum.inr "count") (.int x) = penL c a d x f := rfl
theorem p_fold (x : Int) : putK (penL c a d n f) (Sum.inr "fold") (.int x) = penL c a d n x := rfl
theorem pen_get {x : Str} {v : V} (h0 : σ[0]? = some (some (.ref p))) (hv : valV (penL c a d n f) (Sum.inr x) = some v) (q : Q v (upd H p (.dK (penL c a d n f)))) : tDGet (tVar 0) (tC (.str x)) σ (upd H p (.dK (penL c a d n f))) Q :=
  ⟨_, h0, p, v, rfl, .inl ⟨_, Sum.inr x, .inl upd_same, rfl, hv.symm⟩, q⟩
theorem pen_put {x : Str} {te : TE} {v : V} {kvs : List (Key × V)} (h0 : σ[0]? = some (some (.ref p))) (hp : putK (penL c a d n f) (Sum.inr x) v = kvs)
    (h : ∀ R : VK, R v (upd H p (.dK (penL c a d n f))) → te σ (upd H p (.dK (penL c a d n f))) R) (k : D.nx σ (upd H p (.dK kvs))) : sDPut (tVar 0) (tC (.str x)) te D σ (upd H p (.dK (penL c a d n f))) := by
  refine h _ ⟨_, h0, p, _, rfl, .inl ⟨_, Sum.inr x, upd_same, rfl, by show 5 < sizeLine; decide, rfl⟩, ?_⟩
  rw [upd_upd, hp]
  exact k
end
end G
namespace G
open PySem PySem.Spec PyProof.Rows L2
/-- behind a store into the pen -/
theorem pen_exit {K : PySem.W.Frag} {Hf H : Hp} {M : List Addr} {p : Addr} {o : HO} (h1 : Ex Hf H) (h2 : ∀ p ∈ M, Hf p = none ∧ ∃ o, H p = some o ∧ PenO K Hf o) (hp : p ∈ M) (ho : PenO K Hf o) : Exit K ⟨fun a => if a ∈ M then none else H a, Hf, M, []⟩ Hf (upd H p o) := by
  refine { exF := fun a u e => ?_, ex0 := Ex.refl _, exB := fun a u e => ?_, frz := fun a _ h => h, pens := fun q hq => ⟨(h2 q hq).1, if_pos hq, ?_⟩, tabs := fun q hq => (List.not_mem_nil hq).elim }
  · have n : a ≠ p := ne_of_none e (h2 p hp).1
    rw [upd_ne n]
    exact h1 a u e
  · have e' : (if a ∈ M then none else H a) = some u := e
    by_cases z : a ∈ M
    · rw [if_pos z] at e'; cases e'
    · rw [if_neg z] at e'
      rw [upd_ne (fun y => z (by rw [y]; exact hp))]
      exact e'
  · by_cases z : q = p
    · subst z
      exact ⟨o, upd_same, ho⟩
    · rw [upd_ne z]
      exact (h2 q hq).2
theorem penO_of {K : PySem.W.Frag} {Hf : Hp} {c : Addr} {ns : List Int} {a d n f : Int} (hs : SqL K Hf c (ns.map V.int)) (ha : 0 ≤ a) (hd : 0 ≤ d) (hd2 : d.natAbs < 2 ^ 1048577) (hf : 0 ≤ f) (hf2 : f < 2 ^ 31) (hn : ∀ n ∈ ns, Builtin.Int.intBits n ≤ 1048576) : PenO K Hf (.dK (penL c a d n f)) :=
  ⟨c, ns, a, d, n, f, rfl, hs, ha, hd, hd2, hf, hf2, hn⟩
theorem same_upd {H : Hp} {p : Addr} {o : HO} (h : H p = some o) : H = upd H p o := by
  funext a
  by_cases z : a = p
  · subst z; rw [upd_same, h]
  · rw [upd_ne z]
end G
namespace G
open PySem PySem.Spec PyProof.Rows L2
/-- an if whose ways meet -/
theorem if_cut {c : TT} {t u rest : TS} {D : Ends} {σ : L2.St} {H : Hp} (J : L2.St → Hp → Prop) (hj : ∀ σ' H', J σ' H' → rest D σ' H') (h : ∀ N : L2.St → Hp → Prop, (∀ σ' H', J σ' H' → N σ' H') → tIfS c t u { D with nx := N } σ H) : tSeq (tIfS c t u) rest D σ H := h (rest D) hj
theorem bits_lt {n : Int} {k : Nat} (h : Builtin.Int.intBits n ≤ k) : n.natAbs < 2 ^ k := by
  unfold Builtin.Int.intBits at h
  by_cases z : n = 0
  · subst z; exact Nat.two_pow_pos k
  · have e : (n == 0) = false := by simpa using z
    rw [e] at h
    have h' : n.natAbs.log2 + 1 ≤ k := h
    exact Nat.lt_of_lt_of_le Nat.lt_log2_self (Nat.pow_le_pow_right (by decide) h')
theorem fmod_lo (a : Int) {m : Int} (h : 0 < m) : 0 ≤ a.fmod m := by
  rw [Int.fmod_eq_emod_of_nonneg _ (Int.le_of_lt h)]
  exact Int.emod_nonneg _ (by omega)
theorem fmod_hi (a : Int) {m : Int} (h : 0 < m) : a.fmod m < m := by
  rw [Int.fmod_eq_emod_of_nonneg _ (Int.le_of_lt h)]
  exact Int.emod_lt_of_pos _ h
theorem fdiv_lo {a m : Int} (ha : 0 ≤ a) (h : 0 < m) : 0 ≤ a.fdiv m := by
  rw [Int.fdiv_eq_ediv_of_nonneg _ (Int.le_of_lt h)]
  exact Int.ediv_nonneg ha (Int.le_of_lt h)
theorem fdiv_abs {a m : Int} (ha : 0 ≤ a) (h : 0 < m) : (a.fdiv m).natAbs ≤ a.natAbs := by
  have h1 := fdiv_lo ha h
  have h2 : a.fdiv m ≤ a := by
    rw [Int.fdiv_eq_ediv_of_nonneg _ (Int.le_of_lt h)]
    exact Int.ediv_le_self _ ha
  omega
theorem atI_ints {ns : List Int} {i : Int} (h0 : 0 ≤ i) (h : i < ns.length) : ∃ n, n ∈ ns ∧ L2.atI (ns.map V.int) i = some (.int n) := by
  obtain ⟨k, rfl⟩ := Int.eq_ofNat_of_zero_le h0
  have hk : k < ns.length := by omega
  refine ⟨ns[k], List.getElem_mem hk, ?_⟩
  unfold L2.atI ixN
  rw [List.length_map, if_pos (by omega), if_pos (by omega)]
  show (ns.map V.int)[((k : Nat) : Int).toNat]? = _
  rw [Int.toNat_natCast, List.getElem?_map, List.getElem?_eq_getElem hk]
  rfl
end G

set_option Elab.async false
set_option linter.all false
set_option maxRecDepth 100000
set_option maxHeartbeats 4000000
/-! DLaw: a law's own end: from its promise to the row. -/
namespace G
open PySem PySem.Spec PyProof.Rows L2
/-- what a law promises: True, whatever the script -/
def spLaw (K : PySem.W.Frag) : Sp := fun vs H Q _ => ∃ (a : Addr) (ns : List Int), vs = [.ref a] ∧ SqL K H a (ns.map V.int) ∧ ns.length ≤ 63 ∧ (∀ z ∈ ns, Builtin.Int.intBits z ≤ 1048576) ∧ ∀ H', Q (.bl true) H'
theorem sys_of {h : Heap} (x : h.NoSeer) : SysD h := by
  obtain ⟨mm, ⟨o, es, ep, e, d, _⟩, _⟩ := x.mods
  exact ⟨o, es, ep, e, d⟩
section
variable {P : Program} {w : World} {K : PySem.W.Frag} {mg mb : Str → Option Value} {k : Nat} {fa a : Addr} {fd : FuncData} {s₁ : Shared} {vs : List Value} {ns : List Int}
/-- the law is called: the script alone may be tracked, and then it is known to its object -/
theorem law_in (KX : K.In s₁.heap) (hM : ∀ H : Hp, (∀ b, H b ≠ none → b = a) → (H a ≠ none → K.lookup a = none) → L2.Mod K mg (hidT s₁.heap H) ∧ SysD (hidT s₁.heap H)) (hg : s₁.gens = #[])
    (ha : s₁.heap.get? a = some { cls := .type "list", data := .seq vs.toArray }) (hi : IntsAre vs ns) (hl : ns.length ≤ 63) (hb : ∀ z ∈ ns, Builtin.Int.intBits z ≤ 1048576) (hr : Rm true k callerA)
    (F : ∀ base : Heap, L2.Mod K mg base → SysD base → FnG P w K mg base true k fa fd (["script"] : List Str) (fun _ => spLaw K)) (hbind : ∀ (s : Shared) (u : Value), BindsTo s fd ⟨[u], []⟩ [("script", u)]) :
    codeAny (model P w) callerA (.call (.ref fa) ⟨[.ref a], []⟩) (fun r s' => r = .ok (.ret (.bool true)) ∧ OldK s₁.heap s'.heap ∧ s'.os = s₁.os ∧ AllBare s'.gens) s₁ := by
  have rv := vals_ints hi
  have key : ∀ H : Hp, (∀ b, H b = none ∨ ∃ o xs, H b = some (.frz o (.lst xs))) → SqL K H a (ns.map V.int) → HOk P w H s₁.heap → (∀ b, H b ≠ none → b = a) → (H a ≠ none → K.lookup a = none) →
      codeAny (model P w) callerA (.call (.ref fa) ⟨[.ref a], []⟩) (fun r s' => r = .ok (.ret (.bool true)) ∧ OldK s₁.heap s'.heap ∧ s'.os = s₁.os ∧ AllBare s'.gens) s₁ := fun H hO hS hok hA hK => by
    obtain ⟨M, hsys⟩ := hM H hA hK
    have none_in : ∀ (b : Addr), b ∉ ([] : List Addr) := fun b h => nomatch h
    have e0 : Env0 P w K mg (hidT s₁.heap H) callerA [] s₁ H := { frames := rfl, mod := M, bs := fun b o e => of_hidT e, bsz := Nat.le_of_eq (hidT_size _ _), funs := trivial, frf := fun b h => (none_in b h).elim, hok := hok, bare := .of_eq hg }
    have go := (F _ M hsys).run callerA [] s₁ H ⟨[.ref a], []⟩ [.ref a] [.ref a] (fun v _ => v = .bl true) (fun _ _ _ => False) [] hr (fun p h => nomatch h) e0 (hbind s₁ (.ref a)) (.cons rfl .nil) ⟨a, ns, rfl, hS, hl, hb, fun _ => rfl⟩
    refine codeAny_mono go (fun r s' h => ?_)
    match r, h with
    | .error e, h =>
      obtain ⟨_, _, _, _, _, _, _, _, _, _, _, _, z⟩ := h
      exact z.elim
    | .ok .next, h => exact h.elim
    | .ok .brk, h => exact h.elim
    | .ok .cont, h => exact h.elim
    | .ok (.ret u), h =>
      obtain ⟨v, H', os, bare, un, hok', ru, q⟩ := h
      have q' : v = .bl true := q
      rw [q'] at ru
      have eu : u = Value.bool true := ru
      rw [eu]
      refine ⟨rfl, OldK.of_keep (fun b o e => ?_), os, bare⟩
      rcases hO b with z | ⟨ob, xs, z⟩
      · exact un.keep b o e z (none_in b) (none_in b)
      · obtain ⟨e1, _⟩ := hok b _ z
        obtain ⟨e2, _⟩ := hok' b _ (un.frzs b ob _ z)
        rw [e] at e1
        rw [Option.some.inj e1]
        exact e2
  cases hk : K.lookup a with
  | some o =>
    have e := KX a o hk
    rw [ha] at e
    have e' := Option.some.inj e
    subst e'
    refine key (fun _ => none) (fun _ => Or.inl rfl) (Or.inr ⟨_, vs.toArray, _, hk, rfl, rfl, rfl, ?_, ?_⟩) (fun _ _ z => nomatch z) (fun _ z => (z rfl).elim) (fun z => (z rfl).elim)
    · rw [List.size_toArray, hi.length]; exact Nat.le_trans hl (by decide)
    · rw [List.toList_toArray]; exact rv
  | none =>
    let ob : Obj := { cls := .type "list", data := .seq vs.toArray }
    have at_a : (fun b => if b = a then some (HO.frz ob (.lst (ns.map V.int))) else none : Hp) a = some (.frz ob (.lst (ns.map V.int))) := if_pos rfl
    have only : ∀ b, (fun b => if b = a then some (HO.frz ob (.lst (ns.map V.int))) else none : Hp) b ≠ none → b = a := fun b h => by
      by_cases z : b = a
      · exact z
      · exact (h (if_neg z)).elim
    refine key (fun b => if b = a then some (.frz ob (.lst (ns.map V.int))) else none) (fun b => ?_) (Or.inl (Or.inr ⟨ob, at_a⟩)) (fun b u e => ?_) only (fun _ => hk)
    · by_cases z : b = a
      · rw [z]; exact Or.inr ⟨_, _, at_a⟩
      · exact Or.inl (if_neg z)
    · have z := only b (by rw [e]; exact fun y => nomatch y)
      subst z
      rw [at_a] at e
      cases e
      exact ⟨ha, by rw [List.length_map]; exact Nat.le_trans hl (by decide), vs, _, rv, ha⟩
end
/-- the end of the row -/
theorem walkG {l : PySem.W.OpenLaw} {k : Nat} {q : Program} {loose : List Str} {XP : (Str → Option Value) → Heap → Prop} {YP : World → Heap → Prop} {d : DefRec} {K : Params → PySem.W.Frag}
    (hn : l.most = some 63) (hdf : d.params.defaults = []) (hi : importsNone q = true) (hr : Rm true k callerA) (hY : ∀ (w : World) (h : Heap), YP w h → (K w.params).In h)
    (F : ∀ (w : World) (mg : Str → Option Value) (fa : Addr) (h : Heap), (K w.params).In h → h.Ns mainGlobals mg → mg d.name = some (.ref fa) →
      ∃ fd : FuncData, (∀ (s : Shared) (u : Value), BindsTo s fd ⟨[u], []⟩ [("script", u)]) ∧ ∀ base : Heap, L2.Mod (K w.params) mg base → SysD base → FnG l.prog w (K w.params) mg base true k fa fd (["script"] : List Str) (fun _ => spLaw (K w.params))) :
    PySem.W.WalkO q loose XP YP l.row.toRowW d [] (fun f vs => PySem.call f vs) := by
  refine Att.attach_callB hn hdf fun w s₀ s₁ mg mb fa o pm cd doc a vs ns G Y ho hd hcd hmg hobj hints hlen hbits hg => ?_
  have KX := hY w _ Y
  obtain ⟨fd, hb, hF⟩ := F w mg fa _ KX G.T.g hmg
  have S := G.T.seer hi
  refine law_in KX (fun H hA hK => ?_) hg hobj hints hlen hbits hr hF hb
  have noA : ∀ {b : Addr} {o : Obj} {es : Array DictEntry} {ep : Nat}, s₁.heap.get? b = some o → o.data = .dict es ep → H b = none := fun {b o es ep} e dd => by
    cases z : H b with
    | none => rfl
    | some u =>
      have y := hA b (by rw [z]; exact fun y => nomatch y)
      rw [y, hobj] at e
      rw [← Option.some.inj e] at dd
      exact Data.noConfusion dd
  have nsK : ∀ {b : Addr} {m : Str → Option Value}, s₁.heap.Ns b m → (hidT s₁.heap H).Ns b m := fun {b m} x => by
    obtain ⟨o, es, ep, e, dd, r⟩ := x
    exact ⟨o, es, ep, hidT_get e (noA e dd), dd, r⟩
  have kin : (K w.params).In (hidT s₁.heap H) := fun b o e => by
    refine hidT_get (KX b o e) ?_
    cases z : H b with
    | none => rfl
    | some u =>
      have y := hA b (by rw [z]; exact fun y => nomatch y)
      rw [y] at e z
      rw [hK (by rw [z]; exact fun y => nomatch y)] at e
      cases e
  obtain ⟨mc, l1, l2⟩ := G.T.nolimit
  obtain ⟨so, ses, sep, se, sd⟩ := sys_of S
  exact ⟨{ kin := kin, glob := nsK G.T.g, blt := ⟨mb, nsK G.T.b, G.T.builtins⟩, nolimit := ⟨mc, nsK l1, l2⟩ }, so, ses, sep, hidT_get se (noA se sd), sd⟩
/-! ### a pen is made -/
def spPen (K : PySem.W.Frag) : Sp := fun vs H Q _ => ∃ (a : Addr) (ns : List Int), vs = [.ref a] ∧ SqL K H a (ns.map V.int) ∧ ns.length ≤ 63 ∧ (∀ z ∈ ns, Builtin.Int.intBits z ≤ 1048576) ∧
  ∀ p o Hf H', Ex H H' → (∀ a, H a ≠ none → Hf a = none) → Ex Hf H' → Hf p = none → H' p = some o → PenO K Hf o → Q (.ref p) H'
/-- the rest of a law behind its pen -/
theorem law_rest {K : PySem.W.Frag} {t : TS} {n : Nat} {Q : VK} {p sc : Addr} {o : HO} {Hf H : Hp} {T : List (Addr × Str)} (he : Ex Hf H) (hf : Hf p = none) (hp : H p = some o) (ho : PenO K Hf o) (hT : ∀ p ∈ T, H p.1 = some (.tbl #[]) ∧ Hf p.1 = none)
    (h : ∀ b, b.T = T → DS K b (.no :: .pen :: List.replicate n .no) t (fun _ => False) (fun d => d = .bl true) (fun _ => False) (fun _ => False)) (q : ∀ H', Q (.bl true) H') :
    t { nx := fun _ H' => Q .non H', rt := Q } (some (.ref sc) :: some (.ref p) :: List.replicate n none) H := by
  refine h ⟨fun _ => none, fun _ => none, [p], T⟩ rfl Hf H _ _ ?_ (fun _ _ _ _ _ _ z => z.elim) (fun v d Hf' H' e x r z => ?_) (fun _ _ _ _ _ _ z => z.elim) (fun _ _ _ _ _ _ z => z.elim)
  · refine { ex := { exF := he, ex0 := fun a u e => (nomatch e), exB := fun a u e => (nomatch e), frz := fun a h1 _ => (h1 rfl).elim, pens := fun q hq => ?_, tabs := fun q hq => ?_ }, len := by simp, sl := fun i x s h1 h2 => ?_, mine := fun i a z => rfl, sep := fun i j a z _ => ?_ }
    · rw [List.mem_singleton.mp hq]
      exact ⟨hf, rfl, o, hp, ho⟩
    · obtain ⟨t1, t2⟩ := hT q hq
      refine ⟨t2, rfl, fun z => ?_, #[], t1, trivial, fun pos cv hc => ?_⟩
      · rw [List.mem_singleton.mp z, hp] at t1
        obtain ⟨_, _, _, _, _, _, e, _⟩ := ho
        rw [e] at t1
        cases t1
      · have z : codeAmong pos [] = some cv := hc
        simp [codeAmong] at z
    · match i with
      | 0 =>
        simp at h1 h2
        subst h1; subst h2
        trivial
      | 1 =>
        simp at h1 h2
        subst h1; subst h2
        exact ⟨p, List.mem_singleton.mpr rfl, rfl⟩
      | i + 2 =>
        simp at h1 h2
        rw [List.getElem?_replicate] at h2
        split at h2
        · cases h2
          match x with
          | none => trivial
          | some _ => trivial
        · cases h2
    · obtain ⟨⟨ds, h1⟩, _⟩ := z
      match i with
      | 0 => simp at h1
      | 1 => simp at h1
      | i + 2 =>
        simp at h1
        rw [List.getElem?_replicate] at h1
        split at h1 <;> cases h1
  · subst z
    rw [r.bl_inv]
    exact q H'
end G

set_option Elab.async false
set_option linter.all false
set_option maxRecDepth 100000
set_option maxHeartbeats 4000000
/-! DShow: how long a repr is; data that repr may be asked of. -/
namespace G
open PySem PySem.Spec PyProof.Rows L2
/-- all its signs have few digits -/
def Ok8 (s : Str) : Prop := ∀ c ∈ s.cps.toList, c < 16 ^ 8
theorem Ok8.app {a b : Str} (x : Ok8 a) (y : Ok8 b) : Ok8 (a ++ b) := fun c h => (mem_cps_append.mp h).elim (x c) (y c)
theorem ok8_char (c : Char) : c.toNat < 16 ^ 8 := c.val.toNat_lt
theorem ok8_hex (n c : Nat) : ∀ x ∈ List.replicate n 48 ++ (Nat.toDigits 16 c).map Char.toNat, x < 16 ^ 8 := fun x h => by
  rcases List.mem_append.mp h with h | h
  · rw [(List.mem_replicate.mp h).2]; decide
  · obtain ⟨ch, _, rfl⟩ := List.mem_map.mp h
    exact ok8_char ch
theorem ok8_int0 (i : Int) : Ok8 (PyData.int i).shown := fun c hc => by
  by_cases h : c < 16 ^ 8
  · exact h
  · exact (shown_int_free' (k := c) ⟨by omega, Or.inr (by omega)⟩ i hc).elim
theorem ok8_rc (q c : Nat) (hc : c < 16 ^ 8) : ∀ x ∈ Builtin.Str.reprChar q c, x < 16 ^ 8 := by
  have two : ∀ a b : Nat, a < 16 ^ 8 → b < 16 ^ 8 → ∀ x ∈ [a, b], x < 16 ^ 8 := fun a b ha hb x h => by
    rcases List.mem_cons.mp h with rfl | h
    · exact ha
    · rw [List.mem_singleton.mp h]; exact hb
  have app : ∀ (l m : List Nat), (∀ x ∈ l, x < 16 ^ 8) → (∀ x ∈ m, x < 16 ^ 8) → ∀ x ∈ l ++ m, x < 16 ^ 8 := fun l m a b x h => (List.mem_append.mp h).elim (a x) (b x)
  unfold Builtin.Str.reprChar
  dsimp only
  by_cases h1 : (c == q || c == 92) = true
  · rw [if_pos h1]; exact two _ _ (by decide) hc
  rw [if_neg h1]
  by_cases h2 : (c == 10) = true
  · rw [if_pos h2]; exact two _ _ (by decide) (by decide)
  rw [if_neg h2]
  by_cases h3 : (c == 13) = true
  · rw [if_pos h3]; exact two _ _ (by decide) (by decide)
  rw [if_neg h3]
  by_cases h4 : (c == 9) = true
  · rw [if_pos h4]; exact two _ _ (by decide) (by decide)
  rw [if_neg h4]
  by_cases h5 : Unicode.isPrintable c = true
  · rw [if_pos h5]; intro x h; rw [List.mem_singleton.mp h]; exact hc
  rw [if_neg h5]
  by_cases h6 : c < 256
  · rw [if_pos h6]; exact app _ _ (two _ _ (by decide) (by decide)) (ok8_hex _ _)
  rw [if_neg h6]
  by_cases h7 : c < 65536
  · rw [if_pos h7]; exact app _ _ (two _ _ (by decide) (by decide)) (ok8_hex _ _)
  · rw [if_neg h7]; exact app _ _ (two _ _ (by decide) (by decide)) (ok8_hex _ _)
theorem ok8_fold (q : Nat) : ∀ (l : List Nat) (acc : Array Nat), (∀ c ∈ l, c < 16 ^ 8) → (∀ c ∈ acc.toList, c < 16 ^ 8) → ∀ c ∈ (l.foldl (fun out c => out ++ (Builtin.Str.reprChar q c).toArray) acc).toList, c < 16 ^ 8
  | [], acc, _, h => h
  | c :: r, acc, h, ha => ok8_fold q r _ (fun d hd => h d (List.mem_cons_of_mem _ hd)) fun d hd => by
    rw [Array.toList_append] at hd
    rcases List.mem_append.mp hd with z | z
    · exact ha d z
    · exact ok8_rc q c (h c List.mem_cons_self) d z
theorem ok8_reprText {x : Str} (h : Ok8 x) : Ok8 (reprText x) := by
  have hq : reprQuote x < 16 ^ 8 := by
    unfold reprQuote
    split <;> decide
  intro c hc
  unfold reprText at hc
  rw [Array.toList_push, ← Array.foldl_toList] at hc
  rcases List.mem_append.mp hc with z | z
  · exact ok8_fold _ _ _ h (fun d hd => by rw [List.mem_singleton.mp hd]; exact hq) c z
  · rw [List.mem_singleton.mp z]; exact hq
theorem ok8_dec {s : Str} (h : (s.cps.toList.all fun c => decide (c < 16 ^ 8)) = true) : Ok8 s := fun c hc => of_decide_eq_true (List.all_eq_true.mp h c hc)
theorem ok8_text : ∀ (ts : List Str) (k : Nat) (acc : Str), Ok8 acc → (∀ t ∈ ts, Ok8 t) → Ok8 (textFrom k acc ts)
  | [], _, _, h, _ => h
  | t :: r, k, acc, h, ht => ok8_text r (k + 1) _ ((h.app (by split <;> exact ok8_dec (by decide +kernel))).app (ht t List.mem_cons_self)) fun u hu => ht u (List.mem_cons_of_mem _ hu)
theorem ok8_list {ts : List Str} (h : ∀ t ∈ ts, Ok8 t) : Ok8 (listText ts) := (ok8_text ts 0 _ (ok8_dec (by decide +kernel)) h).app (ok8_dec (by decide +kernel))
theorem ok8_join {sep : Str} (hs : Ok8 sep) : ∀ ts : List Str, (∀ t ∈ ts, Ok8 t) → Ok8 (Str.join sep ts)
  | [], _ => fun c h => by
    have h' : c ∈ ([] : List Nat) := h
    cases h'
  | [x], h => h x (List.mem_singleton.mpr rfl)
  | x :: y :: r, h => ((h x List.mem_cons_self).app hs).app (ok8_join hs (y :: r) fun t ht => h t (List.mem_cons_of_mem _ ht))
theorem ok8_tuple {ts : List Str} (h : ∀ t ∈ ts, Ok8 t) : Ok8 (tupleText ts) := by
  unfold tupleText
  refine ((ok8_dec (by decide +kernel)).app (ok8_join (ok8_dec (by decide +kernel)) ts h)).app ?_
  split <;> exact ok8_dec (by decide +kernel)
theorem ok8_dict {ts : List Str} (h : ∀ t ∈ ts, Ok8 t) : Ok8 (dictText ts) := ((ok8_dec (by decide +kernel)).app (ok8_join (ok8_dec (by decide +kernel)) ts h)).app (ok8_dec (by decide +kernel))
mutual
theorem ok8_shown {B : Nat} : ∀ d : PyData, d.leavesShort B = true → Ok8 d.shown
  | .none, _ => ok8_dec (by decide +kernel)
  | .bool b, _ => by cases b <;> exact ok8_dec (by decide +kernel)
  | .int i, _ => ok8_int0 i
  | .str x, h => by
    simp only [PyData.shown]
    exact ok8_reprText (x := x) (ok8_dec (by simpa only [PyData.leavesShort] using h))
  | .list xs, h => by
    simp only [PyData.shown]
    exact ok8_list (ok8_shownAll xs (by simpa only [PyData.leavesShort] using h))
  | .tuple xs, h => by
    simp only [PyData.shown]
    exact ok8_tuple (ok8_shownAll xs (by simpa only [PyData.leavesShort] using h))
  | .dict xs, h => by
    simp only [PyData.shown]
    exact ok8_dict (ok8_shownKv xs (by simpa only [PyData.leavesShort] using h))
theorem ok8_shownAll {B : Nat} : ∀ ds : List PyData, PyData.leavesShortAll B ds = true → ∀ t ∈ PyData.shownAll ds, Ok8 t
  | [], _, t, ht => by simp [PyData.shownAll] at ht
  | d :: r, h, t, ht => by
    simp only [PyData.leavesShortAll, Bool.and_eq_true] at h
    simp only [PyData.shownAll] at ht
    rcases List.mem_cons.mp ht with rfl | ht
    · exact ok8_shown d h.1
    · exact ok8_shownAll r h.2 t ht
theorem ok8_shownKv {B : Nat} : ∀ ds : List (PyData × PyData), PyData.leavesShortKv B ds = true → ∀ t ∈ PyData.shownKv ds, Ok8 t
  | [], _, t, ht => by simp [PyData.shownKv] at ht
  | (k, v) :: r, h, t, ht => by
    simp only [PyData.leavesShortKv, Bool.and_eq_true] at h
    simp only [PyData.shownKv] at ht
    rcases List.mem_cons.mp ht with rfl | ht
    · exact ((ok8_shown k h.1.1).app (ok8_dec (by decide +kernel))).app (ok8_shown v h.1.2)
    · exact ok8_shownKv r h.2 t ht
end
/-- data of depth at most n, of bulk at most w, its ints of at most 50 digits -/
structure Sm (n w : Nat) (d : D) : Prop where
  pl : d.pl = true
  sh : d.py.showable = true
  dp : d.py.depth ≤ n
  lv : d.py.leavesShort 50 = true
  bk : d.py.bulk ≤ w
structure SmL (n w : Nat) (d : List D) : Prop where
  pl : D.plL d = true
  sh : PyData.showableAll (D.pyL d) = true
  dp : PyData.depthAll (D.pyL d) ≤ n
  lv : PyData.leavesShortAll 50 (D.pyL d) = true
  bk : PyData.bulkAll (D.pyL d) ≤ w
section
variable {n m w v : Nat} {d : D} {l : List D}
theorem Sm.mono (h : Sm n w d) (a : n ≤ m) (b : w ≤ v) : Sm m v d := { pl := h.pl, sh := h.sh, dp := Nat.le_trans h.dp a, lv := h.lv, bk := Nat.le_trans h.bk b }
theorem Sm.len (h : Sm n w d) : d.py.shown.length ≤ 52 * w + 50 := by
  have a := PyData.shown_le_bulk 50 (by decide) d.py h.lv
  have b := h.bk
  omega
theorem Sm.ok (h : Sm n w d) (a : n ≤ 60) (b : w ≤ 1900) : okR d := ⟨h.pl, h.sh, Nat.le_trans h.dp a, by have q := h.len; omega⟩
theorem Sm.ok8 (h : Sm n w d) : Ok8 d.py.shown := ok8_shown d.py h.lv
theorem Sm.str {s : Str} (h : Ok8 s) (hl : s.length ≤ w) : Sm n w (.str s) :=
  { pl := by simp [D.pl], sh := by simp [D.py, PyData.showable], dp := by simp [D.py, PyData.depth], lv := by simp only [D.py, PyData.leavesShort]; exact List.all_eq_true.mpr fun c hc => decide_eq_true (h c hc), bk := by simp only [D.py, PyData.bulk]; exact hl }
theorem Sm.shown (h : Sm n w d) : Sm m (52 * w + 50) (.str d.py.shown) := Sm.str h.ok8 h.len
theorem SmL.nil : SmL n w [] := { pl := by simp [D.plL], sh := by simp [D.pyL, PyData.showableAll], dp := by simp [D.pyL, PyData.depthAll], lv := by simp [D.pyL, PyData.leavesShortAll], bk := by simp [D.pyL, PyData.bulkAll] }
theorem SmL.cons (h : Sm n w d) (r : SmL n v l) : SmL n (w + 1 + v) (d :: l) :=
  { pl := by simp only [D.plL, h.pl, r.pl] <;> rfl, sh := by simp only [D.pyL, PyData.showableAll, h.sh, r.sh] <;> rfl
    dp := by simp only [D.pyL, PyData.depthAll]; exact Nat.max_le.mpr ⟨h.dp, r.dp⟩, lv := by simp only [D.pyL, PyData.leavesShortAll, h.lv, r.lv] <;> rfl
    bk := by simp only [D.pyL, PyData.bulkAll]; have a := h.bk; have b := r.bk; omega }
theorem SmL.tup (h : SmL n w l) : Sm (n + 1) w (.tup l) :=
  { pl := by simpa only [D.pl] using h.pl, sh := by simpa only [D.py, PyData.showable] using h.sh, dp := by simp only [D.py, PyData.depth]; exact Nat.succ_le_succ h.dp, lv := by simpa only [D.py, PyData.leavesShort] using h.lv, bk := by simpa only [D.py, PyData.bulk] using h.bk }
theorem SmL.lst (h : SmL n w l) : Sm (n + 1) w (.lst l) :=
  { pl := by simpa only [D.pl] using h.pl, sh := by simpa only [D.py, PyData.showable] using h.sh, dp := by simp only [D.py, PyData.depth]; exact Nat.succ_le_succ h.dp, lv := by simpa only [D.py, PyData.leavesShort] using h.lv, bk := by simpa only [D.py, PyData.bulk] using h.bk }
theorem lenD_seq {x : D} {l : List D} (h : seqD x = some l) : lenD x = some l.length := by
  cases x <;> first | (cases h; rfl) | cases h
theorem atD_seq {x : D} {l : List D} (h : seqD x = some l) (i : Int) : atD x i = L2.atI l i := by
  cases x <;> first | (cases h; rfl) | cases h
theorem atI_nat {l : List D} {i : Int} (h0 : 0 ≤ i) (h : i < l.length) : ∃ d, d ∈ l ∧ L2.atI l i = some d := by
  obtain ⟨k, rfl⟩ := Int.eq_ofNat_of_zero_le h0
  have hk : k < l.length := by omega
  refine ⟨l[k], List.getElem_mem hk, ?_⟩
  unfold L2.atI ixN
  rw [if_pos (by omega), if_pos (by omega)]
  show l[((k : Nat) : Int).toNat]? = _
  rw [Int.toNat_natCast]
  exact List.getElem?_eq_getElem hk
end
end G

set_option Elab.async false
set_option linter.all false
set_option maxRecDepth 100000
set_option maxHeartbeats 4000000
/-! DTry: try .. except C as n, as read by ds_try. -/
namespace G
open PySem PySem.Spec PyProof.Rows L2
theorem ps_tryD {X : Cx} {x n : Str} {c : Value} {i : Nat} {body suite : List Stmt} {b₀ : Stmt} {np pos pos' : Pos} {tb : WX → TS} {ts : Addr → Value → Option Addr → TS} {Wout : WX}
    (hs : X.stack = X.env :: X.outer) (hf : X.env.frame = some X.env.locals) (hN : X.N.Nodup) (hi : X.N[i]? = some n) (hln : X.env.kindOf n = some .local) (hc : Names X x c) (tk : Takes X Wout)
    (hb : ∀ (W : WX) (pn : List (Addr × Obj)) (xe : Value → Shared → Prop), Takes (X.tr pn xe) W → PassesOwn (model X.prog X.w) X.A X.env xe → PSs (X.tr pn xe) body (tb W))
    (hsu : ∀ (a : Addr) (oe : Obj) (cls : Value) (d : Option Addr) (pn : List (Addr × Obj)), Zc cls d oe → (∃ vs, oe.data = .fields vs) → PSs (X.suite a ((a, oe) :: pn)) (b₀ :: suite) (ts a cls d)) :
    PS X (.Try body [.ExceptHandler (some (.Name x np)) (some n) (b₀ :: suite) pos'] [] [] pos) (tTryAs X.K c i tb ts Wout) := ps_try_as hs hf hN hi hln hc tk hb hsu
theorem pnp_of {K : PySem.W.Frag} {a a' C' : Addr} {d d' : Option Addr} {oe : Obj} {cls : Value} {pn : Pins} (hz : Zc cls d oe) (hf : ∃ vs, oe.data = .fields vs) (z : a' = a ∧ d' = d ∧ Value.ref C' = cls ∧ XcC K C') : PnOk K ((a, oe) :: pn) a' d' C' := by
  obtain ⟨z1, z2, z3, z4⟩ := z
  subst z1; subst z2; subst z3
  exact ⟨oe, List.mem_cons_self, hz, hf, z4⟩
/-- a, b, c = x, y, z -/
theorem ds_par3 {K : PySem.W.Frag} {b : Bs} {ρ : List Sl} {tr : TA} {nx bk ct : List Sl → Prop} {rt : D → Prop} {i j m : Nat} (h : DA K b ρ tr fun l => ∃ x y z, l = [x, y, z] ∧ nx (((ρ.set i (.sh x)).set j (.sh y)).set m (.sh z))) : DS K b ρ (tPar3 i j m tr) nx rt bk ct := fun Hf H σ D fr n r bk ct => by
  refine h Hf H σ _ fr fun vs ds Hf1 H1 e1 f1 r1 ⟨x, y, z, e, q⟩ => ?_
  subst e
  cases r1 with
  | cons q1 r1 =>
    cases r1 with
    | cons q2 r1 =>
      cases r1 with
      | cons q3 r1 =>
        cases r1
        exact ⟨_, _, _, rfl, n _ _ Hf1 H1 e1.1 (((f1.set q1).set q2).set q3) q⟩
/-- a law begins: its pen -/
theorem law_startT {K : PySem.W.Frag} {t : TS} {n : Nat} {Q : VK} {sa : Addr} {ns : List Int} {H : Hp} {N : List Str} {E : L2.St → XK} {T : List (Addr × Str)} (hN : L2.start N [.ref sa] = some (.ref sa) :: none :: List.replicate n none)
    (hs : SqL K H sa (ns.map V.int)) (hl : ns.length ≤ 63) (hb : ∀ z ∈ ns, Builtin.Int.intBits z ≤ 1048576) (hT : ∀ p ∈ T, H p.1 = some (.tbl #[]))
    (h : ∀ b, b.T = T → DS K b (.no :: .pen :: List.replicate n .no) t (fun _ => False) (fun d => d = .bl true) (fun _ => False) (fun _ => False)) (q : ∀ H', Q (.bl true) H') :
    tSeq (tAsg (tCallG (fun _ => spPen K) [] E (tCons (tVar 0) tNil)) (gName 1)) t { nx := fun _ H' => Q .non H', rt := Q } (L2.start N [.ref sa]) H := by
  rw [hN]
  refine ⟨_, rfl, sa, ns, rfl, hs, hl, hb, fun p o Hf H' e0 ef e1 e2 e3 e4 => ?_⟩
  exact law_rest (t := t) (n := n) e1 e2 e3 e4 (fun p hp => ⟨e0 _ _ (hT p hp), ef _ (by rw [hT p hp]; exact fun z => nomatch z)⟩) h q
theorem law_start {K : PySem.W.Frag} {t : TS} {n : Nat} {Q : VK} {sa : Addr} {ns : List Int} {H : Hp} {N : List Str} {E : L2.St → XK} (hN : L2.start N [.ref sa] = some (.ref sa) :: none :: List.replicate n none)
    (hs : SqL K H sa (ns.map V.int)) (hl : ns.length ≤ 63) (hb : ∀ z ∈ ns, Builtin.Int.intBits z ≤ 1048576)
    (h : ∀ b, DS K b (.no :: .pen :: List.replicate n .no) t (fun _ => False) (fun d => d = .bl true) (fun _ => False) (fun _ => False)) (q : ∀ H', Q (.bl true) H') :
    tSeq (tAsg (tCallG (fun _ => spPen K) [] E (tCons (tVar 0) tNil)) (gName 1)) t { nx := fun _ H' => Q .non H', rt := Q } (L2.start N [.ref sa]) H :=
  law_startT (T := []) hN hs hl hb (fun p hp => (List.not_mem_nil hp).elim) (fun b _ => h b) q
end G

set_option Elab.async false
set_option linter.all false
set_option maxRecDepth 100000
set_option maxHeartbeats 4000000
/-! DLam: g(lambda: body), g a def that calls it once; told over data. -/
namespace G
open PySem PySem.Spec PyProof.Rows L2
section
variable {X : Cx} {pins : List (Addr × Obj)} {σ : L2.St} {H : Hp} {s : Shared}
/-- the context in which g runs -/
abbrev cxL (P : Program) (w : World) (K : PySem.W.Frag) (mg : Str → Option Value) (base : Heap) (A : Around) (st : List Env) (Ng : List Str) (qg : Str) (sg : Scope) (g : Addr) (cdg : Value) (s : Shared) (H : Hp) : Cx := cxOf (L2.CX P w) P w K mg base Ng qg sg g cdg A st s H E0
/-- what the lambda's object is -/
abbrev lamObj (X : Cx) (params : Arguments) (body : Expr) (scope : Scope) (pm : Value) (c' : Addr) (ctv : Value) : Obj := PySem.W.kla_obj "<lambda>" (X.env.qual ++ "<lambda>") params body scope (cloFrom X.env.cells scope.names []) pm c' ctv
/-- the call of what g was handed -/
theorem pe_actG {Ng : List Str} {qg : Str} {sg : Scope} {g f c' : Addr} {cdg pm ctv : Value} {params : Arguments} {body : Expr} {scope : Scope} {k i : Nat} {a : Str} {pn : List (Addr × Obj)} {xe : Value → Shared → Prop} {E : L2.St → XK} {tb : XK → TE} {p1 p2 : Pos}
    (I : Inv X pins σ H s) (L : LamX.LamS X.env.scope scope) (hf : s.heap.get? f = some (lamObj X params body scope pm c' ctv)) (hfn : H f = none) (hfr : f ∉ frs X.stack)
    (hbind : bindArgs (PySem.W.kla_fn "<lambda>" (X.env.qual ++ "<lambda>") params body scope (cloFrom X.env.cells scope.names []) pm (.ref c') ctv) ⟨[], []⟩ = pure [])
    (hx : ∀ σ', PassesAt (L2.CX X.prog X.w) ((cxL X.prog X.w X.K X.mg X.base X.A X.stack Ng qg sg g cdg s H).tr pn xe) σ' (E σ')) (hr : Rm true (k + 1) (X.A.deeper (envOfC qg sg s.heap.objs.size g cdg)))
    (hbody : ∀ (A : Around) (outer : List Env) (s : Shared) (H : Hp) (E : XK), Rm true k (A.deeper (LamX.lamEnv X scope s.heap.objs.size f c')) → PE (LamX.lamCx X A outer s H E scope f c') body (tb E))
    (hN : Ng[i]? = some a) (hv : Vis sg a) (hd : (a == ("__debug__" : Str)) = false) (hcd : (a == ("__classdict__" : Str)) = false) :
    PE ((cxL X.prog X.w X.K X.mg X.base X.A X.stack Ng qg sg g cdg s H).tr pn xe) (.Call (.Name a p1) [] [] p2) (fun σZ HZ Q => σZ[i]? = some (some (.ref f)) ∧ HZ c' = some (LamX.CodeO c' (X.env.qual ++ "<lambda>")) ∧ tb (E σZ) σ HZ Q) := by
  refine ⟨fun pz sz σz Hz Q Iz h => ?_⟩
  obtain ⟨hs, hc, ht⟩ := h
  refine wpAny_Call_Name_kw (thn ((pe_var (pos := p1) (i := i) hN hv hd hcd).run pz sz σz Hz (fun v H1 => v = .ref f ∧ H1 = Hz) Iz ⟨.ref f, hs, rfl, rfl⟩) fun u s1 z => ?_)
  obtain ⟨v, H1, I1, r1, ev, eH⟩ := z
  subst ev
  subst eH
  cases (show u = Value.ref f from r1)
  have at1 : s1.heap.get? f = some (lamObj X params body scope pm c' ctv) := I1.base.keep f _ hf hfn hfr (fun z => nomatch z)
  refine PySem.W.callWith_F0 ⟨_, _, _, _, at1⟩ ?_
  obtain ⟨⟨oc, vs, t, hoc, hdc, hvc⟩, _⟩ := I1.hok c' _ hc
  have rc : codeAny (model X.prog X.w) (X.A.deeper (envOfC qg sg s.heap.objs.size g cdg)) (.call (.ref f) ⟨[], []⟩) (CR (L2.CX X.prog X.w) (envOfC qg sg s.heap.objs.size g cdg :: X.stack) X.prog X.w H1 s1 Q (E σz)) s1 := by
    refine PySem.W.kla_callFunE hr.deep at1 rfl L.co L.gen rfl ⟨c', oc, vs, t, rfl, hoc, hdc, hvc⟩ ?_
    rw [hbind]
    refine wpAny_pure (wpAny_newFunctionEnv (fun y hy => (L.own y hy).2) (fun y hy => nomatch hy) (fun h₁ hns hsb => ⟨I1.nolimit.fresh _ hsb, ?_⟩) L.kind)
    show codeAny _ _ (.expr body (LamX.lamEnv X scope s1.heap.objs.size f c')) _ _
    have kp : ∀ b o, s1.heap.get? b = some o → h₁.get? b = some o := fun b o e => hsb.extBut b o (Nat.ne_of_lt (Heap.lt_size e)) (Heap.get?_push_of_some _ e)
    have J := LamX.lam_start2 (E := E σz) (f := f) (c' := c') (tk := s1.toks + ([] : List (Str × Value)).length) I L I1.env0 (hr.hd rfl) I1.base hns kp
    refine PySem.W.kla_codeExpr (wpAny_mono ((hbody _ _ s1 H1 (E σz) (hr.deeper _)).run [] _ _ H1 Q J ht) (fun v s' hq => ?_) fun e s' hq => hq)
    obtain ⟨w', H', J', rv, q⟩ := hq
    exact ⟨w', H', J'.os, J'.bare, J'.base, J'.hok, rv, q⟩
  refine wpAny_call (codeAny_mono rc fun r s' hq => ?_)
  · match r, hq with
    | .error e, hq => exact hx σz pz H1 s1 e s' I1 hq
    | .ok (.ret u), hq => exact I1.after hq
    | .ok .next, hq => exact hq.elim
    | .ok .brk, hq => exact hq.elim
    | .ok .cont, hq => exact hq.elim
/-- what the making of a lambda does to the table at P: nothing, or one more code object -/
def Grow (P : Addr) (q : Str) (H H1 : Hp) : Prop := H1 = H ∨ ∃ (ps more : Array Value) (c' : Addr), H P = some (.tbl ps) ∧ H c' = none ∧ H1 = upd (upd H P (.tbl (ps ++ more))) c' (LamX.CodeO c' q) ∧ TriplesOk (ps ++ more).toList ∧
  ∀ (pos : Pos) (cv : Value), codeAmong pos (ps ++ more).toList = some cv → codeAmong pos ps.toList = some cv ∨ cv = .ref c'
/-- the lambda's object is made -/
theorem lam_makeG {c P : Addr} {params : Arguments} {body : Expr} {scope : Scope} {pos : Pos} {E : Value → Shared → Prop} {Q : Value → Shared → Prop} {ps : Array Value} (I : Inv X pins σ H s) (TB : LamX.TabB X.base X.mg c P) (hcode : X.env.code = .ref c)
    (hP : H P = some (.tbl ps)) (ht : TriplesOk ps.toList) (ha : ∀ (pos : Pos) (cv : Value), codeAmong pos ps.toList = some cv → ∃ c, cv = .ref c ∧ H c = some (LamX.CodeO c (X.env.qual ++ "<lambda>")))
    (hdef : defaultsOf params X.env = ([], [])) (hfree : ∀ y ∈ scope.names, y.2 = .free → ∃ c, X.env.cells.lookup y.1 = some c)
    (h : ∀ (f c' : Addr) (pm ctv : Value) (H1 : Hp) (s' : Shared), Inv X pins σ H1 s' → Grow P (X.env.qual ++ "<lambda>") H H1 → s'.heap.get? f = some (lamObj X params body scope pm c' ctv) → H1 f = none → f ∉ frs X.stack → H1 c' = some (LamX.CodeO c' (X.env.qual ++ "<lambda>")) → Q (.ref f) s') :
    wpAny (model X.prog X.w) X.A (eval (.Lambda params body scope pos) X.env) Q E s := by
  refine PySem.W.kla_eval hdef ?_
  have bP : s.heap.BuiltinsAt X.mg P := TB.bm.keeps I.bk
  have atP : s.heap.get? P = some { cls := .none, data := .fields ps } := I.hok P _ hP
  have nofr : ∀ f, s.heap.objs.size ≤ f → f ∉ frs X.stack := fun f hf z => by
    rcases List.mem_cons.mp (I.stkSub _ z) with e | e
    · have h1 := I.lt
      rw [← e] at h1
      exact Nat.lt_irrefl _ (Nat.lt_of_lt_of_le h1 hf)
    · exact I.nofs hf e
  cases hc : codeAmong pos ps.toList with
  | some cv =>
    obtain ⟨c', e, hco⟩ := ha pos cv hc
    subst e
    refine PySem.W.kla_makeFunctionHit (mg := X.mg) (c := c) (P := P) (ps := ps) (closure_ok hfree) I.ok.glob (I.mod.glob.keeps I.bk) hcode (TB.code.keeps I.bk) atP ht hc bP fun ctv h' tk hx hsz => ?_
    have I1 : Inv X pins σ H { s with heap := h'.push (lamObj X params body scope ((X.mg "__name__").getD .none) c' ctv), toks := tk } := I.kept fun b o e => Heap.get?_push_of_some _ (hx b o e)
    exact h h'.objs.size c' ((X.mg "__name__").getD .none) ctv H _ I1 (Or.inl rfl) (Heap.get?_push_size _ rfl) (I.hok.fresh hsz) (nofr _ hsz) hco
  | none =>
    refine PySem.W.kla_makeFunction (mg := X.mg) (c := c) (P := P) (ps := ps) (closure_ok hfree) I.ok.glob (I.mod.glob.keeps I.bk) hcode (TB.code.keeps I.bk) atP ht hc TB.gP bP fun c' ctv h' tk hx hge hlt hrec htb => ?_
    obtain ⟨c2, oc, vs, t, e2, hoc, hd, hv⟩ := hrec
    cases e2
    have hsz : s.heap.objs.size ≤ h'.objs.size := Nat.le_trans hge (Nat.le_of_lt hlt)
    have nC : H c' = none := I.hok.fresh hge
    have I1 := LamX.inv_table (t' := tk) (more := #[rawInt pos.line, rawInt pos.col, .ref c']) (h' := h'.push (lamObj X params body scope ((X.mg "__name__").getD .none) c' ctv)) I hP (fun b o hb e => Heap.get?_push_of_some _ (hx b o hb e)) (Heap.get?_push_of_some _ htb) hge ⟨oc, vs, t, Heap.get?_push_of_some _ hoc, hd, hv⟩
    have eL : (ps ++ #[rawInt pos.line, rawInt pos.col, .ref c']).toList = ps.toList ++ [rawInt pos.line, rawInt pos.col, .ref c'] := by simp
    refine h h'.objs.size c' ((X.mg "__name__").getD .none) ctv _ _ I1 (Or.inr ⟨ps, _, c', hP, nC, rfl, by rw [eL]; exact PySem.TriplesOk_snoc _ _ _ _ ht, fun p' cv hcv => ?_⟩) (Heap.get?_push_size _ rfl) ?_ (nofr _ hsz) upd_same
    · rw [eL] at hcv
      exact LamX.among_app _ ht hcv
    · have n1 : h'.objs.size ≠ c' := by omega
      have n2 : h'.objs.size ≠ P := Nat.ne_of_gt (Nat.lt_of_lt_of_le (Heap.lt_size atP) hsz)
      rw [upd_ne n1, upd_ne n2]
      exact I.hok.fresh hsz
end
/-- g, which calls what it got by the name a; TT: what it makes of the lambda's reading -/
def GivesG (P : Program) (w : World) (K : PySem.W.Frag) (mg : Str → Option Value) (base : Heap) (A : Around) (st : List Env) (k : Nat) (Ng : List Str) (x : Str) (sg : Scope) (g : Addr) (cdg : Value) (bg : List Stmt) (a : Str) (q : Str) (TT : (XK → Hp → VK → Prop) → Hp → VK → Prop) : Prop :=
  ∀ (f c' : Addr) (s : Shared) (H : Hp) (Q : VK) (tl : XK → Hp → VK → Prop), Rm true (k + 1) (A.deeper (envOfC x sg s.heap.objs.size g cdg)) →
    (∀ (pn : List (Addr × Obj)) (xe : Value → Shared → Prop) (E : L2.St → XK) (p1 p2 : Pos), (∀ σ', PassesAt (L2.CX P w) ((cxL P w K mg base A st Ng x sg g cdg s H).tr pn xe) σ' (E σ')) →
      PE ((cxL P w K mg base A st Ng x sg g cdg s H).tr pn xe) (.Call (.Name a p1) [] [] p2) (fun σZ HZ Q => σZ[0]? = some (some (.ref f)) ∧ HZ c' = some (LamX.CodeO c' q) ∧ tl (E σZ) HZ Q)) →
    H c' = some (LamX.CodeO c' q) → TT tl H Q → ∃ t, PSs (cxL P w K mg base A st Ng x sg g cdg s H) bg t ∧ t { nx := fun _ H' => Q .non H', rt := Q } (L2.start Ng [.ref f]) H
def tLamG (P : Addr) (q : Str) (TT : (XK → Hp → VK → Prop) → Hp → VK → Prop) (t : XK → TE) : TE := fun σ H Q =>
  (∃ ps : Array Value, H P = some (.tbl ps) ∧ TriplesOk ps.toList ∧ ∀ (pos : Pos) (cv : Value), codeAmong pos ps.toList = some cv → ∃ c, cv = .ref c ∧ H c = some (LamX.CodeO c q)) ∧ ∀ H1, Grow P q H H1 → TT (fun E H' Q' => t E σ H' Q') H1 Q
theorem pe_lamG {X : Cx} {TT : (XK → Hp → VK → Prop) → Hp → VK → Prop} {x a : Str} {g c P : Addr} {k : Nat} {st : Stmt} {fd : FuncData} {Ng : List Str} {params : Arguments} {body : Expr} {scope : Scope} {t : XK → TE} {p lpos pos : Pos}
    (hg : Gl X x) (hm : X.mg x = some (.ref g)) (F : Fun X.K x x st g fd) (hb : L2.Binds X.K fd [a] []) (Sg : FnScope Ng [a] (defScope st)) (hNg : Ng[0]? = some a) (hva : Vis (defScope st) a)
    (hG : ∀ cdg, GivesG X.prog X.w X.K X.mg X.base X.A X.stack k Ng x (defScope st) g cdg (defBody st) a (X.env.qual ++ "<lambda>") TT) (TB : LamX.TabB X.base X.mg c P) (hcode : X.env.code = .ref c) (hr : Rm true (k + 2) X.A) (L : LamX.LamS X.env.scope scope) (hdef : defaultsOf params X.env = ([], []))
    (hbind : ∀ (q : Str) (cl : List (Str × Addr)) (pm cv ctv : Value), bindArgs (PySem.W.kla_fn "<lambda>" q params body scope cl pm cv ctv) ⟨[], []⟩ = pure [])
    (hbody : ∀ (A : Around) (outer : List Env) (s : Shared) (H : Hp) (E : XK) (f c' : Addr), Rm true k (A.deeper (LamX.lamEnv X scope s.heap.objs.size f c')) → PE (LamX.lamCx X A outer s H E scope f c') body (t E))
    (hdb : (x == ("__debug__" : Str)) = false := by decide) (hd : (a == ("__debug__" : Str)) = false := by decide) (hcd : (a == ("__classdict__" : Str)) = false := by decide) :
    PE X (.Call (.Name x p) [.Lambda params body scope lpos] [] pos) (tLamG P (X.env.qual ++ "<lambda>") TT t) := by
  have hk := F.kp
  obtain ⟨oc, od, kV, doc, pm, an, cdg, ct, osl, rfl, lk, hcg⟩ := F.ex
  refine ⟨fun pins s σ H Q I h => ?_⟩
  obtain ⟨⟨ps, hP, ht, ha⟩, h⟩ := h
  refine wpAny_Call_Name_kw (ld_glob I hg hm ?_ hdb)
  refine PySem.W.callWith_K (h₀ := X.base) I.ok.mod.kin hk ?_ (by rfl) (by rfl)
  show wpAny _ _ (spliced ((false, eval (.Lambda params body scope lpos) X.env) :: backTo pos (starEach [] X.env))) _ _ s
  refine Calls.spliced_cons (lam_makeG I TB hcode hP ht ha hdef (L.has I.ok) fun f c' pm' ctv H1 s' I1 gr hf hfn hfr hco => ?_)
  refine Calls.spliced_nil ⟨I1.kIn, ?_⟩
  have rc : codeAny (model X.prog X.w) X.A (.call (.ref g) ⟨[.ref f], []⟩) (CR (L2.CX X.prog X.w) X.stack X.prog X.w H1 s' Q E0) s' := by
    refine LamX.run_ofS (N := Ng) (ps := [a]) (us := [.ref f]) (vs := [.ref f]) lk hcg Sg (hr.mono (Nat.le_refl _)).room I1.env0 (hb s' [.ref f] I1.kIn rfl) (.cons rfl .nil) rfl fun _ => ?_
    have hr' : Rm true (k + 1) (X.A.deeper (envOfC x (defScope st) s'.heap.objs.size g cdg)) := hr.deeper _
    exact hG cdg f c' s' H1 Q (fun E H' Q' => t E σ H' Q') hr' (fun pn xe E p1 p2 hx => pe_actG (i := 0) I1 L hf hfn hfr (hbind _ _ _ _ _) hx hr' (fun A outer s H E hr2 => hbody A outer s H E f c' hr2) hNg hva hd hcd) hco (h H1 gr)
  refine wpAny_call (codeAny_mono rc fun r s2 hq => ?_)
  match r, hq with
  | .error e, hq =>
    obtain ⟨_, _, _, _, _, _, _, _, _, _, _, _, z⟩ := hq
    exact z.elim
  | .ok (.ret u), hq => exact I1.after hq
  | .ok .next, hq => exact hq.elim
  | .ok .brk, hq => exact hq.elim
  | .ok .cont, hq => exact hq.elim
end G

set_option Elab.async false
set_option linter.all false
set_option maxRecDepth 100000
set_option maxHeartbeats 4000000
/-! DFault: what a def makes of the lambda it is handed, told over data. -/
namespace G
open PySem PySem.Spec PyProof.Rows L2
/-- all that stands is fixed but for pens and tables -/
def Bs.cut (b : Bs) (Hf H : Hp) : Bs := ⟨fun a => if a ∈ b.M ∨ a ∈ b.T.map (·.1) then none else H a, Hf, b.M, b.T⟩
section
variable {K : PySem.W.Frag} {b : Bs} {Hf H Hf' H' : Hp} {σ : L2.St} {ρ : List Sl}
theorem Exit.cut (x : Exit K b Hf H) : Exit K (b.cut Hf H) Hf H :=
  { exF := x.exF, ex0 := Ex.refl _
    exB := fun a o e => by
      have e' : (if a ∈ b.M ∨ a ∈ b.T.map (·.1) then none else H a) = some o := e
      by_cases z : a ∈ b.M ∨ a ∈ b.T.map (·.1)
      · rw [if_pos z] at e'; cases e'
      · rw [if_neg z] at e'; exact e'
    frz := fun a _ h => h
    pens := fun p hp => ⟨(x.pens p hp).1, if_pos (Or.inl hp), (x.pens p hp).2.2⟩
    tabs := fun p hp => ⟨(x.tabs p hp).1, if_pos (Or.inr (List.mem_map.mpr ⟨p, hp, rfl⟩)), (x.tabs p hp).2.2⟩ }
theorem Fm.back (f : Fm K b Hf H σ ρ) (y : Exit K (b.cut Hf H) Hf' H') : Up b Hf H Hf' H' ∧ Fm K b Hf' H' σ ρ := by
  have x := f.ex
  have stay : ∀ a o, H a = some o → ¬ b.mt a → (b.cut Hf H).B a = some o := fun a o e n => by
    show (if a ∈ b.M ∨ a ∈ b.T.map (·.1) then none else H a) = some o
    rw [if_neg (show ¬ (a ∈ b.M ∨ a ∈ b.T.map (·.1)) from n)]
    exact e
  have up : Up b Hf H Hf' H' := ⟨y.ex0, fun a o e n => by
    have z := stay a o e n
    exact ⟨y.exB a o z, y.frz a (by rw [z]; exact fun q => nomatch q)⟩⟩
  have out : ∀ a o, b.B a = some o → ¬ b.mt a := fun a o e z => by
    rcases z with z | z
    · obtain ⟨_, z2, _⟩ := x.pens a z
      rw [z2] at e; cases e
    · obtain ⟨q, hq, eq⟩ := List.mem_map.mp z
      obtain ⟨_, z2, _⟩ := x.tabs q hq
      rw [eq, e] at z2; cases z2
  refine ⟨up, f.step { exF := y.exF, ex0 := x.ex0.trans y.ex0, exB := fun a o e => (up.2 a o (x.exB a o e) (out a o e)).1, frz := fun a h1 h2 => ?_, pens := fun p hp => ?_, tabs := fun p hp => ?_ } y.ex0 fun a xs h1 h2 h3 h4 => ?_⟩
  · cases hb : b.B a with
    | none => exact (h1 hb).elim
    | some o => exact (up.2 a o (x.exB a o hb) (out a o hb)).2 (x.frz a h1 h2)
  · obtain ⟨z1, z2, z3⟩ := y.pens p hp
    exact ⟨z1, (x.pens p hp).2.1, z3⟩
  · obtain ⟨z1, z2, z3, z4⟩ := y.tabs p hp
    exact ⟨z1, (x.tabs p hp).2.1, z3, z4⟩
  · have n : ¬ b.mt a := fun z => by
      rcases z with z | z
      · exact h4 z
      · obtain ⟨q, hq, eq⟩ := List.mem_map.mp z
        obtain ⟨_, _, _, t⟩ := x.tabs q hq
        exact t.ne (Or.inr ⟨xs, h1⟩) eq
    obtain ⟨k1, k2⟩ := up.2 a _ h1 n
    exact ⟨k2 h2, k1⟩
/-- one's own lists forgotten -/
def noOw : Sl → Sl
  | .ow _ => .no
  | s => s
theorem Fm.shut (f : Fm K b Hf H σ ρ) {b1 : Bs} {Hf1 H1 : Hp} (x : Exit K b1 Hf1 H1) (e : Ex Hf Hf1) (hm : ∀ p, p ∈ b.M → p ∈ b1.M) : Fm K b1 Hf1 H1 σ (ρ.map noOw) := by
  have own : ∀ i a, ¬ Own σ (ρ.map noOw) i a := fun i a ⟨⟨ds, h1⟩, _⟩ => by
    rw [List.getElem?_map] at h1
    cases q : ρ[i]? with
    | none => rw [q] at h1; cases h1
    | some s =>
      rw [q] at h1
      cases s <;> cases h1
  refine { ex := x, len := by rw [List.length_map]; exact f.len, sl := fun i o s h1 h2 => ?_, mine := fun i a z => (own i a z).elim, sep := fun i j a z => (own i a z).elim }
  rw [List.getElem?_map] at h2
  cases q : ρ[i]? with
  | none => rw [q] at h2; cases h2
  | some s0 =>
    rw [q] at h2
    have h2' : some (noOw s0) = some s := h2
    cases h2'
    have z := f.sl i o s0 h1 q
    match o, s0, z with
    | none, .no, _ => trivial
    | some _, .no, _ => trivial
    | none, .ow _, _ => trivial
    | some _, .ow _, _ => trivial
    | some v, .sh d, z => exact Rp.up e z
    | some v, .pen, z =>
      obtain ⟨p, hp, ev⟩ := z
      exact ⟨p, hm p hp, ev⟩
/-- the lambda's reading tl, over data -/
def TLd (K : PySem.W.Frag) (b : Bs) (Qb : D → Prop) (X : Addr → List (Str × D) → Prop) (tl : XK → Hp → VK → Prop) : Prop :=
  ∀ (b1 : Bs), Sub K b b1 → b1.M = b.M → b1.T = b.T → ∀ (Hf1 H1 : Hp) (k : VK) (E : XK), Exit K b1 Hf1 H1 → (∀ v d Hf' H', Up b1 Hf1 H1 Hf' H' → Exit K b1 Hf' H' → Rp K Hf' v d → Qb d → k v H') →
    (∀ C fs d Hf' H', Exit K b1 Hf' H' → ExD K Hf' d fs → X C fs → E (.ref C) d H') → tl E H1 k
/-- what the def that is handed the lambda makes of it: Fo tells, for what the lambda may give (Qb) and let out (X), what it gives -/
def TTd (K : PySem.W.Frag) (Fo : (D → Prop) → (Addr → List (Str × D) → Prop) → (D → Prop) → Prop) : (XK → Hp → VK → Prop) → Hp → VK → Prop := fun tl H Q =>
  ∃ (b0 : Bs) (Hf : Hp) (Qb : D → Prop) (X : Addr → List (Str × D) → Prop) (R : D → Prop), Exit K b0 Hf H ∧ TLd K (b0.cut Hf H) Qb X tl ∧ Fo Qb X R ∧ ∀ v d Hf' H', Exit K (b0.cut Hf H) Hf' H' → Rp K Hf' v d → R d → Q v H'
theorem TabOk.grow {P : Addr} {q : Str} {H1 : Hp} (x : Exit K b Hf H) (hT : (P, q) ∈ b.T) (hu : ∀ p ∈ b.T, p.1 = P → p.2 = q) (g : Grow P q H H1) (f : Fm K b Hf H σ ρ) : ∃ Hf1, Ex Hf Hf1 ∧ Fm K b Hf1 H1 σ ρ ∧ Up b Hf H Hf1 H1 := by
  rcases g with rfl | ⟨ps, more, c', hP, nC, rfl, ht, ha⟩
  · exact ⟨Hf, Ex.refl _, f, Up.refl⟩
  obtain ⟨t1, t2, t3, t4⟩ := x.tabs (P, q) hT
  have nCf := x.exF.no nC
  have nPc : P ≠ c' := ne_of_none hP nC
  have e := Ex.new (o := LamX.CodeO c' q) nCf
  have atb : ∀ a, a ≠ P → a ≠ c' → upd (upd H P (.tbl (ps ++ more))) c' (LamX.CodeO c' q) a = H a := fun a h1 h2 => by rw [upd_ne h2, upd_ne h1]
  have nP : ∀ a o, H a = some o → (∀ ps, o ≠ .tbl ps) → a ≠ P := fun a o h1 h2 z => by
    rw [z, hP] at h1
    exact h2 ps (Option.some.inj h1).symm
  have x' : Exit K b (upd Hf c' (LamX.CodeO c' q)) (upd (upd H P (.tbl (ps ++ more))) c' (LamX.CodeO c' q)) := by
    refine { exF := fun a o h => ?_, ex0 := x.ex0.trans e, exB := fun a o h => ?_, frz := fun a h1 h2 => ?_, pens := fun p hp => ?_, tabs := fun p hp => ?_ }
    · by_cases z : a = c'
      · subst z; rw [upd_same] at h ⊢; exact h
      · rw [upd_ne z] at h
        have n : a ≠ P := fun y => by rw [y, t1] at h; cases h
        rw [atb a n z]
        exact x.exF a o h
    · have h0 := x.exB a o h
      have n : a ≠ P := fun y => by rw [y, t2] at h; cases h
      rw [atb a n (ne_of_none h0 nC)]
      exact h0
    · have n : a ≠ c' := fun z => h1 (by rw [z]; exact x.exB.no nC)
      rw [upd_ne n]
      exact x.frz a h1 h2
    · obtain ⟨z1, z2, o, z3, z4⟩ := x.pens p hp
      have n1 : p ≠ c' := ne_of_none z3 nC
      have n2 : p ≠ P := fun y => t3 (by rw [← y]; exact hp)
      exact ⟨by rw [upd_ne n1]; exact z1, z2, o, by rw [atb p n2 n1]; exact z3, z4.up e⟩
    · obtain ⟨z1, z2, z3, ps', z4, z5, z6⟩ := x.tabs p hp
      have n1 : p.1 ≠ c' := ne_of_none z4 nC
      refine ⟨by rw [upd_ne n1]; exact z1, z2, z3, ?_⟩
      by_cases y : p.1 = P
      · rw [hu p hp y, y]
        refine ⟨ps ++ more, by rw [upd_ne nPc, upd_same], ht, fun pos cv hc => ?_⟩
        rcases ha pos cv hc with w | w
        · obtain ⟨ps2, w1, w2, w3⟩ := t4
          rw [hP] at w1
          cases w1
          obtain ⟨c0, e1, e2⟩ := w3 pos cv w
          exact ⟨c0, e1, e _ _ e2⟩
        · exact ⟨c', w, upd_same⟩
      · exact ⟨ps', by rw [atb p.1 y n1]; exact z4, z5, fun pos cv hc => by
          obtain ⟨c0, e1, e2⟩ := z6 pos cv hc
          exact ⟨c0, e1, e _ _ e2⟩⟩
  refine ⟨_, e, f.step x' e fun a xs h1 h2 _ _ => ?_, e, fun a o h n => ?_⟩
  · have n1 : a ≠ c' := ne_of_none h1 nC
    have n2 : a ≠ P := nP a _ h1 (fun ps z => by cases z)
    exact ⟨by rw [upd_ne n1]; exact h2, by rw [atb a n2 n1]; exact h1⟩
  · have n1 : a ≠ c' := ne_of_none h nC
    have n2 : a ≠ P := fun y => n (by rw [y]; exact Bs.mtT hT)
    exact ⟨by rw [atb a n2 n1]; exact h, fun z => by rw [upd_ne n1]; exact z⟩
/-- g(lambda: body), told over data -/
theorem de_lam {P : Addr} {q : Str} {Q Qb : D → Prop} {X : Addr → List (Str × D) → Prop} {Fo : (D → Prop) → (Addr → List (Str × D) → Prop) → (D → Prop) → Prop} {t : XK → TE} (hT : (P, q) ∈ b.T) (hu : ∀ p ∈ b.T, p.1 = P → p.2 = q)
    (h : ∀ (b1 : Bs) (E : XK), b1.M = b.M → b1.T = b.T → EL K b1 (ρ.map noOw) (fun _ => E) X → DE K b1 (ρ.map noOw) (t E) Qb) (hF : Fo Qb X Q) : DE K b ρ (tLamG P q (TTd K Fo) t) Q := fun Hf H σ k fr c => by
  obtain ⟨_, _, _, ps, h1, h2, h3⟩ := fr.ex.tabs (P, q) hT
  refine ⟨⟨ps, h1, h2, fun pos cv hc => ?_⟩, fun H1 g => ?_⟩
  · obtain ⟨c0, e1, e2⟩ := h3 pos cv hc
    exact ⟨c0, e1, fr.ex.exF _ _ e2⟩
  · obtain ⟨Hf1, e1, f1, up1⟩ := TabOk.grow fr.ex hT hu g fr
    refine ⟨b, Hf1, Qb, X, Q, f1.ex, fun b1 sub eM eT Hf2 H2 k2 E x2 hk hE => ?_, hF, fun v d Hf' H' x' r z => ?_⟩
    · have y2 := sub.2 _ _ x2
      have f2 := f1.shut x2 y2.ex0 (fun p hp => by rw [eM]; exact hp)
      refine h b1 E eM eT (fun Hf3 H3 σ3 f3 C fs d e z => hE C fs d Hf3 H3 f3.ex e z) Hf2 H2 σ k2 f2 fun v d Hf' H' u f r z => hk v d Hf' H' u f.ex r z
    · obtain ⟨u, f2⟩ := f1.back x'
      exact c v d Hf' H' (up1.trans u) f2 r z
end
end G

set_option Elab.async false
set_option linter.all false
set_option maxRecDepth 100000
set_option maxHeartbeats 4000000
/-! DMath: whole numbers: chains, *=, gcd, named constants; defs whose code is asked for. -/
namespace G
open PySem PySem.Spec PyProof.Rows L2
section
variable {K : PySem.W.Frag} {b : Bs} {ρ : List Sl} {ta tb te tc : TE} {tt tu : TT} {tr : TA} {Q : D → Prop} {H Hf : Hp}
theorem pe_globI {X : Cx} {x : Str} {i : Int} {pos : Pos} (hg : Gl X x) (hm : ∃ t, X.mg x = some (.int i t)) (hdb : (x == ("__debug__" : Str)) = false := by decide) : PE X (.Name x pos) (tC (.int i)) := by
  obtain ⟨t, hm⟩ := hm
  exact pe_glob (v := .int i) hg hm ⟨_, rfl⟩ hdb
/-- a < b < c of ints -/
theorem de_chainI {g g' : Int → Int → Bool} (h : DE K b ρ ta fun x => DE K b ρ tb fun y => ∃ i j, x = .int i ∧ y = .int j ∧ if g i j = true then DE K b ρ tc fun z => ∃ l, z = .int l ∧ Q (.bl (g' j l)) else Q (.bl false)) :
    DE K b ρ (tChain (rI0 fun i j => .bl (g i j)) (rI0 fun i j => .bl (g' i j)) ta tb tc) Q := fun Hf H σ k fr c => by
  refine h Hf H σ _ fr fun v x Hf1 H1 e1 f1 r1 q1 => ?_
  refine q1 Hf1 H1 σ _ f1 fun u y Hf2 H2 e2 f2 r2 ⟨i, j, ex, ey, q⟩ => ?_
  subst ex; subst ey
  refine ⟨i, j, r1.int_inv, r2.int_inv, g i j, rfl, ?_⟩
  by_cases z : g i j = true
  · rw [if_pos z] at q ⊢
    refine q Hf2 H2 σ _ f2 fun w z Hf3 H3 e3 f3 r3 ⟨l, ez, q3⟩ => ?_
    subst ez
    exact ⟨j, l, r2.int_inv, r3.int_inv, c _ _ Hf3 H3 ((e1.trans e2).trans e3) f3 (.bl _) q3⟩
  · rw [if_neg z] at q ⊢
    exact c _ _ Hf2 H2 (e1.trans e2) f2 (.bl _) q
/-- gcd(a, b) -/
theorem de_gcd (h : DE K b ρ ta fun x => DE K b ρ tb fun y => ∃ i j, x = .int i ∧ y = .int j ∧ Q (.int ((Nat.gcd i.natAbs j.natAbs : Nat) : Int))) : DE K b ρ (tCB rGcd (tCons ta (tCons tb tNil))) Q :=
  de_cb (da_cons (h.imp fun x hx => da_cons (hx.imp fun y ⟨i, j, e1, e2, q⟩ => da_nil fun Hf H σ k vs f rr c => by
    subst e1; subst e2
    cases rr with
    | cons r1 rr =>
      cases rr with
      | cons r2 rr =>
        cases rr
        have a := r1.int_inv; subst a
        have a := r2.int_inv; subst a
        exact ⟨i, j, rfl, c _ _ Hf H Up.refl f (.int _) q⟩)))
/-- x *= e -/
def ipM : TIp := fun x y H Q => ∃ i j, x = .int i ∧ y = .int j ∧ IntMulOk i j ∧ Q (.int (i * j)) H
theorem ip_mulG {X : Cx} : PIp X .Mult ipM := by
  intro pins s σ H x y v u Q I r1 r2 h
  obtain ⟨i, j, e1, e2, hm, q⟩ := h
  subst e1; subst e2
  obtain ⟨t, rfl⟩ := r1
  obtain ⟨t', rfl⟩ := r2
  exact imul_int ⟨.int _, H, I.tok _, ⟨_, rfl⟩, q⟩ hm
theorem ds_augM {nx bk ct : List Sl → Prop} {rt : D → Prop} {i : Nat} {a : Int} (hi : ρ[i]? = some (.sh (.int a))) (h : DE K b ρ te fun y => ∃ j, y = .int j ∧ IntMulOk a j ∧ nx (ρ.set i (.sh (.int (a * j))))) : DS K b ρ (tAug i te ipM) nx rt bk ct := fun Hf H σ D fr n r bk ct => by
  have hl : i < σ.length := by rw [fr.len]; exact (List.getElem?_eq_some_iff.mp hi).1
  have ho : σ[i]? = some σ[i] := List.getElem?_eq_getElem hl
  have z := fr.sl i _ _ ho hi
  generalize σ[i] = o at ho z
  match o, z with
  | none, z => exact z.elim
  | some v, z =>
    have ev := Rp.int_inv z
    subst ev
    refine ⟨.int a, ho, ?_⟩
    refine h Hf H σ _ fr fun v d Hf1 H1 e1 f1 r1 ⟨j, e, hm, q⟩ => ?_
    subst e
    exact ⟨a, j, rfl, r1.int_inv, hm, n _ _ Hf1 H1 e1.1 (f1.set (.int _)) q⟩
/-- what a lambda's call is, in the def that was handed it -/
theorem de_act {b0 : Bs} {tl : XK → Hp → VK → Prop} {Qb : D → Prop} {X : Addr → List (Str × D) → Prop} {f c' : Addr} {q : Str} {W : WX} {nx : List Sl} (htl : TLd K b0 Qb X tl) (sub : Sub K b0 b) (hM : b.M = b0.M) (hT : b.T = b0.T)
    (hc : b0.B c' = some (LamX.CodeO c' q)) (hE : EL K b ρ (fun σ => WE W σ) X) (hf : ρ[0]? = some (.sh (.fn f))) (hfree : ∀ (i : Nat) (s : Sl), ρ[i]? = some s → s = .no ∨ s = .sh .non ∨ s = .sh (.fn f)) :
    (∀ d, Qb d → Q d) → DE K b ρ (fun σZ HZ Q' => σZ[0]? = some (some (.ref f)) ∧ HZ c' = some (LamX.CodeO c' q) ∧ tl (WE W σZ) HZ Q') Q := fun hQ Hf H σ k fr c => by
  have hl : 0 < σ.length := by rw [fr.len]; exact (List.getElem?_eq_some_iff.mp hf).1
  have ho : σ[0]? = some σ[0] := List.getElem?_eq_getElem hl
  have z := fr.sl 0 _ _ ho hf
  generalize σ[0] = o at ho z
  have keep : ∀ Hf' H', Exit K b Hf' H' → Fm K b Hf' H' σ ρ := fun Hf' H' x => by
    have own : ∀ i a, ¬ Own σ ρ i a := fun i a ⟨⟨ds, h1⟩, _⟩ => by
      rcases hfree i _ h1 with h | h | h <;> cases h
    refine { ex := x, len := fr.len, sl := fun i o s h1 h2 => ?_, mine := fun i a z => (own i a z).elim, sep := fun i j a z => (own i a z).elim }
    have q := fr.sl i o s h1 h2
    rcases hfree i s h2 with h | h | h
    · subst h
      match o with
      | none => trivial
      | some _ => trivial
    · subst h
      match o, q with
      | some v, q =>
        have e := (show Rp K Hf v .non from q).non_inv
        subst e
        exact Rp.non
      | none, q => exact q.elim
    · subst h
      match o, q with
      | some v, q =>
        cases (show Rp K Hf v (.fn f) from q)
        exact Rp.fn f
      | none, q => exact q.elim
  match o, z with
  | none, z => exact z.elim
  | some v, z =>
    cases (show Rp K Hf v (.fn f) from z)
    refine ⟨ho, (sub.2 _ _ fr.ex).exB _ _ hc, ?_⟩
    exact htl b sub hM hT Hf H k (WE W σ) fr.ex (fun v d Hf' H' u x r z => c v d Hf' H' u (keep _ _ x) r (hQ d z)) (fun C fs d Hf' H' x e z => hE Hf' H' σ (keep _ _ x) C fs d e z)
end
end G

set_option Elab.async false
set_option linter.all false
set_option maxRecDepth 100000
set_option maxHeartbeats 4000000
/-! DEnd: the row's end for laws that make lambdas: the tables of their code. -/
namespace G
open PySem PySem.Spec PyProof.Rows L2
def spLawT (K : PySem.W.Frag) (cs : List (Addr × Addr)) : Sp := fun vs H Q _ => ∃ (a : Addr) (ns : List Int), vs = [.ref a] ∧ SqL K H a (ns.map V.int) ∧ ns.length ≤ 63 ∧ (∀ z ∈ ns, Builtin.Int.intBits z ≤ 1048576) ∧ (∀ p ∈ cs, H p.2 = some (.tbl #[])) ∧ ∀ H', Q (.bl true) H'
abbrev emptyTab : Obj := { cls := .none, data := .fields #[] }
section
variable {P : Program} {w : World} {K : PySem.W.Frag} {mg mb : Str → Option Value} {k : Nat} {fa a : Addr} {fd : FuncData} {s₁ : Shared} {vs : List Value} {ns : List Int} {cs : List (Addr × Addr)}
theorem law_inT (KX : K.In s₁.heap) (hT : ∀ p ∈ cs, s₁.heap.get? p.2 = some emptyTab) (nT : ∀ p ∈ cs, K.lookup p.2 = none) (hC : ∀ p ∈ cs, PySem.W.CodeHd s₁.heap p.1 p.2)
    (hM : ∀ H : Hp, (∀ b, H b ≠ none → b = a ∨ b ∈ cs.map (·.2)) → (∀ b, H b ≠ none → K.lookup b = none) → L2.Mod K mg (hidT s₁.heap H) ∧ SysD (hidT s₁.heap H) ∧ ∀ p ∈ cs, LamX.TabB (hidT s₁.heap H) mg p.1 p.2) (hg : s₁.gens = #[])
    (ha : s₁.heap.get? a = some { cls := .type "list", data := .seq vs.toArray }) (hi : IntsAre vs ns) (hl : ns.length ≤ 63) (hb : ∀ z ∈ ns, Builtin.Int.intBits z ≤ 1048576) (hr : Rm true k callerA)
    (F : ∀ base : Heap, L2.Mod K mg base → SysD base → (∀ p ∈ cs, LamX.TabB base mg p.1 p.2) → FnG P w K mg base true k fa fd (["script"] : List Str) (fun _ => spLawT K cs)) (hbind : ∀ (s : Shared) (u : Value), BindsTo s fd ⟨[u], []⟩ [("script", u)]) :
    codeAny (model P w) callerA (.call (.ref fa) ⟨[.ref a], []⟩) (fun r s' => r = .ok (.ret (.bool true)) ∧ OldK s₁.heap s'.heap ∧ s'.os = s₁.os ∧ AllBare s'.gens) s₁ := by
  have rv := vals_ints hi
  have isT : ∀ b : Addr, b ∈ cs.map (·.2) → s₁.heap.get? b = some emptyTab := fun b hb => by
    obtain ⟨p, hp, e⟩ := List.mem_map.mp hb
    rw [← e]
    exact hT p hp
  have aT : a ∉ cs.map (·.2) := fun z => by
    have q := isT a z
    rw [ha] at q
    cases congrArg Obj.data (Option.some.inj q)
  have none_in : ∀ (b : Addr), b ∉ ([] : List Addr) := fun b h => nomatch h
  have key : ∀ H : Hp, (∀ b, H b = none ∨ b ∈ cs.map (·.2) ∨ ∃ o xs, H b = some (.frz o (.lst xs))) → (∀ p ∈ cs, H p.2 = some (.tbl #[])) → SqL K H a (ns.map V.int) → HOk P w H s₁.heap → (∀ b, H b ≠ none → b = a ∨ b ∈ cs.map (·.2)) → (∀ b, H b ≠ none → K.lookup b = none) →
      codeAny (model P w) callerA (.call (.ref fa) ⟨[.ref a], []⟩) (fun r s' => r = .ok (.ret (.bool true)) ∧ OldK s₁.heap s'.heap ∧ s'.os = s₁.os ∧ AllBare s'.gens) s₁ := fun H hO hH hS hok hA hK => by
    obtain ⟨M, hsys, TB⟩ := hM H hA hK
    have e0 : Env0 P w K mg (hidT s₁.heap H) callerA [] s₁ H := { frames := rfl, mod := M, bs := fun b o e => of_hidT e, bsz := Nat.le_of_eq (hidT_size _ _), funs := trivial, frf := fun b h => (none_in b h).elim, hok := hok, bare := .of_eq hg }
    have go := (F _ M hsys TB).run callerA [] s₁ H ⟨[.ref a], []⟩ [.ref a] [.ref a] (fun v _ => v = .bl true) (fun _ _ _ => False) [] hr (fun p h => nomatch h) e0 (hbind s₁ (.ref a)) (.cons rfl .nil) ⟨a, ns, rfl, hS, hl, hb, hH, fun _ => rfl⟩
    refine codeAny_mono go (fun r s' h => ?_)
    match r, h with
    | .error e, h =>
      obtain ⟨_, _, _, _, _, _, _, _, _, _, _, _, z⟩ := h
      exact z.elim
    | .ok .next, h => exact h.elim
    | .ok .brk, h => exact h.elim
    | .ok .cont, h => exact h.elim
    | .ok (.ret u), h =>
      obtain ⟨v, H', os, bare, un, hok', ru, q⟩ := h
      have q' : v = .bl true := q
      rw [q'] at ru
      have eu : u = Value.bool true := ru
      rw [eu]
      have kept : ∀ b o, b ∉ cs.map (·.2) → s₁.heap.get? b = some o → s'.heap.get? b = some o := fun b o nb e => by
        rcases hO b with z | z | ⟨ob, xs, z⟩
        · exact un.keep b o e z (none_in b) (none_in b)
        · exact (nb z).elim
        · obtain ⟨e1, _⟩ := hok b _ z
          obtain ⟨e2, _⟩ := hok' b _ (un.frzs b ob _ z)
          rw [e] at e1
          rw [Option.some.inj e1]
          exact e2
      have grown : ∀ p ∈ cs, ∃ more : Array Value, s'.heap.get? p.2 = some { cls := .none, data := .fields more } := fun p hp => by
        obtain ⟨more, z⟩ := un.tbls p.2 #[] (hH p hp)
        exact ⟨_, hok' p.2 _ z⟩
      refine ⟨rfl, ⟨fun b o e => ?_, fun b o e => ?_⟩, os, bare⟩
      · by_cases hb : b ∈ cs.map (·.2)
        · obtain ⟨p, hp, ep⟩ := List.mem_map.mp hb
          obtain ⟨more, hm⟩ := grown p hp
          rw [← ep] at e ⊢
          rw [hT p hp] at e
          cases e
          exact .inr (.inl ⟨((hC p hp).tab (hT p hp)).isCodeTable, rfl, #[], more, rfl, by rw [Array.empty_append]; exact hm⟩)
        · exact .inl (kept b o hb e)
      · by_cases hb : b ∈ cs.map (·.2)
        · obtain ⟨p, hp, ep⟩ := List.mem_map.mp hb
          obtain ⟨more, hm⟩ := grown p hp
          rw [← ep]
          exact ⟨_, hm⟩
        · exact ⟨o, kept b o hb e⟩
  have memT : ∀ p ∈ cs, p.2 ∈ cs.map (·.2) := fun p hp => List.mem_map.mpr ⟨p, hp, rfl⟩
  have neA : ∀ b, b ∈ cs.map (·.2) → b ≠ a := fun b h z => aT (by rw [← z]; exact h)
  let ob : Obj := { cls := .type "list", data := .seq vs.toArray }
  have tabs : ∀ (X : Option HO), (∀ b : Addr, b ∈ cs.map (·.2) → (fun b => if b ∈ cs.map (·.2) then some (HO.tbl #[]) else if b = a then X else none : Hp) b = some (.tbl #[])) := fun X b h => if_pos h
  have atA : ∀ (X : Option HO), (fun b => if b ∈ cs.map (·.2) then some (HO.tbl #[]) else if b = a then X else none : Hp) a = X := fun X => (if_neg aT).trans (if_pos rfl)
  have oth : ∀ (X : Option HO) (b : Addr), b ∉ cs.map (·.2) → b ≠ a → (fun b => if b ∈ cs.map (·.2) then some (HO.tbl #[]) else if b = a then X else none : Hp) b = none := fun X b h1 h2 => (if_neg h1).trans (if_neg h2)
  have nK : ∀ b, b ∈ cs.map (·.2) → K.lookup b = none := fun b h => by
    obtain ⟨p, hp, e⟩ := List.mem_map.mp h
    rw [← e]
    exact nT p hp
  cases hk : K.lookup a with
  | some o =>
    have e := KX a o hk
    rw [ha] at e
    have e' := Option.some.inj e
    subst e'
    refine key (fun b => if b ∈ cs.map (·.2) then some (HO.tbl #[]) else if b = a then none else none) (fun b => ?_) (fun p hp => tabs none _ (memT p hp)) (Or.inr ⟨_, vs.toArray, _, hk, rfl, rfl, rfl, ?_, ?_⟩) (fun b u e => ?_) (fun b z => ?_) (fun b z => ?_)
    · by_cases h1 : b ∈ cs.map (·.2)
      · exact Or.inr (Or.inl h1)
      · by_cases h2 : b = a
        · subst h2; exact Or.inl (atA none)
        · exact Or.inl (oth none b h1 h2)
    · rw [List.size_toArray, hi.length]; exact Nat.le_trans hl (by decide)
    · rw [List.toList_toArray]; exact rv
    · by_cases h1 : b ∈ cs.map (·.2)
      · rw [tabs none b h1] at e
        cases e
        exact isT b h1
      · by_cases h2 : b = a
        · subst h2; rw [atA none] at e; cases e
        · rw [oth none b h1 h2] at e; cases e
    · by_cases h1 : b ∈ cs.map (·.2)
      · exact Or.inr h1
      · by_cases h2 : b = a
        · exact Or.inl h2
        · exact (z (oth none b h1 h2)).elim
    · by_cases h1 : b ∈ cs.map (·.2)
      · exact nK b h1
      · by_cases h2 : b = a
        · subst h2; exact (z (atA none)).elim
        · exact (z (oth none b h1 h2)).elim
  | none =>
    refine key (fun b => if b ∈ cs.map (·.2) then some (HO.tbl #[]) else if b = a then some (.frz ob (.lst (ns.map V.int))) else none) (fun b => ?_) (fun p hp => tabs (some (.frz ob (.lst (ns.map V.int)))) _ (memT p hp)) (Or.inl (Or.inr ⟨ob, atA (some (.frz ob (.lst (ns.map V.int))))⟩)) (fun b u e => ?_) (fun b z => ?_) (fun b z => ?_)
    · by_cases h1 : b ∈ cs.map (·.2)
      · exact Or.inr (Or.inl h1)
      · by_cases h2 : b = a
        · subst h2; exact Or.inr (Or.inr ⟨_, _, atA _⟩)
        · exact Or.inl (oth _ b h1 h2)
    · by_cases h1 : b ∈ cs.map (·.2)
      · rw [tabs _ b h1] at e
        cases e
        exact isT b h1
      · by_cases h2 : b = a
        · subst h2
          rw [atA] at e
          cases e
          exact ⟨ha, by rw [List.length_map]; exact Nat.le_trans hl (by decide), vs, _, rv, ha⟩
        · rw [oth _ b h1 h2] at e; cases e
    · by_cases h1 : b ∈ cs.map (·.2)
      · exact Or.inr h1
      · by_cases h2 : b = a
        · exact Or.inl h2
        · exact (z (oth _ b h1 h2)).elim
    · by_cases h1 : b ∈ cs.map (·.2)
      · exact nK b h1
      · by_cases h2 : b = a
        · subst h2; exact hk
        · exact (z (oth _ b h1 h2)).elim
end
/-- the end of the row -/
theorem walkGT {l : PySem.W.OpenLaw} {k : Nat} {q : Program} {loose : List Str} {XP : (Str → Option Value) → Heap → Prop} {YP : World → Heap → Prop} {d : DefRec} {K : Params → PySem.W.Frag} (xs : List Str)
    (hn : l.most = some 63) (hdf : d.params.defaults = []) (hi : importsNone q = true) (hx : (xs.all fun x => ((recsOf q).find? fun e => e.name == x).isSome) = true) (hr : Rm true k callerA) (hY : ∀ (w : World) (h : Heap), YP w h → (K w.params).In h)
    (F : ∀ (w : World) (mg : Str → Option Value) (fa : Addr) (h : Heap), (K w.params).In h → h.Ns mainGlobals mg → mg d.name = some (.ref fa) →
      ∃ (fd : FuncData) (cs : List (Addr × Addr)), (∀ p ∈ cs, (K w.params).lookup p.2 = none) ∧ (∀ p ∈ cs, ∃ x ∈ xs, PySem.W.tabIn (K w.params) x = some p) ∧ (∀ (s : Shared) (u : Value), BindsTo s fd ⟨[u], []⟩ [("script", u)]) ∧
        ∀ base : Heap, L2.Mod (K w.params) mg base → SysD base → (∀ p ∈ cs, LamX.TabB base mg p.1 p.2) → FnG l.prog w (K w.params) mg base true k fa fd (["script"] : List Str) (fun _ => spLawT (K w.params) cs)) :
    PySem.W.WalkO q loose XP YP l.row.toRowW d [] (fun f vs => PySem.call f vs) := by
  refine Att.attach_callB hn hdf fun w s₀ s₁ mg mb fa o pm cd doc a vs ns G Y ho hd hcd hmg hobj hints hlen hbits hg => ?_
  have KX := hY w _ Y
  obtain ⟨fd, cs, nT, ht, hb, hF⟩ := F w mg fa _ KX G.T.g hmg
  have S := G.T.seer hi
  have tb : ∀ p ∈ cs, PySem.W.CodeHd s₁.heap p.1 p.2 ∧ s₁.heap.get? p.2 = some emptyTab := fun p hp => by
    obtain ⟨x, hxm, e⟩ := ht p hp
    have z := List.all_eq_true.mp hx x hxm
    obtain ⟨d0, hd0⟩ := Option.isSome_iff_exists.mp z
    exact PySem.W.tab_of G.T KX hd0 e
  refine law_inT KX (fun p hp => (tb p hp).2) nT (fun p hp => (tb p hp).1) (fun H hA hK => ?_) hg hobj hints hlen hbits hr hF hb
  have tabAt : ∀ b, b ∈ cs.map (·.2) → s₁.heap.get? b = some emptyTab := fun b h => by
    obtain ⟨p, hp, e⟩ := List.mem_map.mp h
    rw [← e]
    exact (tb p hp).2
  have free : ∀ {b : Addr} {o : Obj}, s₁.heap.get? b = some o → (∀ vs n, o.data ≠ .seq vs n) → o.data ≠ .fields #[] → H b = none := fun {b o} e h1 h2 => by
    cases z : H b with
    | none => rfl
    | some u =>
      rcases hA b (by rw [z]; exact fun y => nomatch y) with y | y
      · rw [y, hobj] at e
        cases e
        exact (h1 _ _ rfl).elim
      · rw [tabAt b y] at e
        cases e
        exact (h2 rfl).elim
  have noA : ∀ {b : Addr} {o : Obj} {es : Array DictEntry} {ep : Nat}, s₁.heap.get? b = some o → o.data = .dict es ep → H b = none := fun {b o es ep} e dd => free e (fun vs n z => by rw [dd] at z; cases z) (fun z => by rw [dd] at z; cases z)
  have nsK : ∀ {b : Addr} {m : Str → Option Value}, s₁.heap.Ns b m → (hidT s₁.heap H).Ns b m := fun {b m} x => by
    obtain ⟨o, es, ep, e, dd, r⟩ := x
    exact ⟨o, es, ep, hidT_get e (noA e dd), dd, r⟩
  have kin : (K w.params).In (hidT s₁.heap H) := fun b o e => by
    refine hidT_get (KX b o e) ?_
    cases z : H b with
    | none => rfl
    | some u =>
      rw [hK b (by rw [z]; exact fun y => nomatch y)] at e
      cases e
  obtain ⟨mc, l1, l2⟩ := G.T.nolimit
  obtain ⟨so, ses, sep, se, sd⟩ := sys_of S
  refine ⟨{ kin := kin, glob := nsK G.T.g, blt := ⟨mb, nsK G.T.b, G.T.builtins⟩, nolimit := ⟨mc, nsK l1, l2⟩ }, ⟨so, ses, sep, hidT_get se (noA se sd), sd⟩, fun p hp => ?_⟩
  obtain ⟨C, hTp⟩ := tb p hp
  refine ⟨?_, ?_, fun z => ?_⟩
  · obtain ⟨o, us, file, tf, flags, tg, inF, text, tt, e1, r1, r2, r3, r⟩ := C
    refine ⟨o, us, file, tf, flags, tg, inF, text, tt, hidT_get e1 (free e1 (fun vs n z => ?_) fun z => ?_), r1, r2, r3, r⟩
    · rw [r2] at z; cases z
    · rw [r2] at z
      cases z
      simp at r3
  · obtain ⟨bm, ob, b1, b2, b3, b4, b5, b6⟩ := G.T.bmain
    have nG : bm ≠ mainGlobals := fun q => by
      obtain ⟨o, es, ep, e, hd, _⟩ := G.T.g
      rw [q, e] at b3
      cases b3
      rw [hd] at b6
      cases b6
    have nP : bm ≠ p.2 := fun q => by
      rw [q, hTp] at b3
      cases b3
      cases b6
    exact ⟨bm, ob, b1, b2, nG, nP, hidT_get b3 (free b3 (fun vs n z => by rw [b6] at z; cases z) fun z => by rw [b6] at z; cases z), b4, b5, b6⟩
  · obtain ⟨o, es, ep, e, hd, _⟩ := G.T.g
    rw [z, hTp] at e
    cases e
    cases hd
end G

set_option Elab.async false
set_option linter.all false
set_option maxRecDepth 100000
set_option maxHeartbeats 4000000
/-! DOk: data that == may be asked of; data equal to itself. -/
namespace G
open PySem PySem.Spec PyProof.Rows L2
structure Od (n : Nat) (d : D) : Prop where
  pl : d.pl = true
  nd : d.nd = true
  cl : d.py.canLay0 = true
  dp : d.py.depth ≤ n
structure OdL (n : Nat) (l : List D) : Prop where
  pl : D.plL l = true
  nd : D.ndL l = true
  cl : PyData.canLayAll0 (D.pyL l) = true
  dp : PyData.depthAll (D.pyL l) ≤ n
section
variable {n m : Nat} {d : D} {l : List D}
theorem Od.mono (h : Od n d) (a : n ≤ m) : Od m d := { pl := h.pl, nd := h.nd, cl := h.cl, dp := Nat.le_trans h.dp a }
theorem Od.ok (h : Od n d) (a : n ≤ 64) : okD d = true := by
  unfold okD SeqAt.shaped
  rw [h.pl, h.nd, h.cl, decide_eq_true (Nat.le_trans h.dp a)] <;> rfl
theorem Od.refl (h : Od n d) : eqD d d = true := SeqAt.eqv_refl d.py h.cl
theorem Od.str {s : Str} (h : PyData.strOk s = true) : Od n (.str s) := { pl := by simp [D.pl], nd := by simp [D.nd], cl := by simpa only [D.py, PyData.canLay0] using h, dp := by simp [D.py, PyData.depth] }
theorem Od.int {i : Int} : Od n (.int i) := { pl := by simp [D.pl], nd := by simp [D.nd], cl := by simp [D.py, PyData.canLay0], dp := by simp [D.py, PyData.depth] }
theorem OdL.nil : OdL n [] := { pl := by simp [D.plL], nd := by simp [D.ndL], cl := by simp [D.pyL, PyData.canLayAll0], dp := by simp [D.pyL, PyData.depthAll] }
theorem OdL.cons (h : Od n d) (r : OdL n l) : OdL n (d :: l) :=
  { pl := by simp only [D.plL, h.pl, r.pl] <;> rfl, nd := by simp only [D.ndL, h.nd, r.nd] <;> rfl, cl := by simp only [D.pyL, PyData.canLayAll0, h.cl, r.cl] <;> rfl
    dp := by simp only [D.pyL, PyData.depthAll]; exact Nat.max_le.mpr ⟨h.dp, r.dp⟩ }
theorem OdL.tup (h : OdL n l) : Od (n + 1) (.tup l) :=
  { pl := by simpa only [D.pl] using h.pl, nd := by simpa only [D.nd] using h.nd, cl := by simpa only [D.py, PyData.canLay0] using h.cl, dp := by simp only [D.py, PyData.depth]; exact Nat.succ_le_succ h.dp }
theorem OdL.lst (h : OdL n l) : Od (n + 1) (.lst l) :=
  { pl := by simpa only [D.pl] using h.pl, nd := by simpa only [D.nd] using h.nd, cl := by simpa only [D.py, PyData.canLay0] using h.cl, dp := by simp only [D.py, PyData.depth]; exact Nat.succ_le_succ h.dp }
theorem Od.dec (h1 : d.pl = true) (h2 : d.nd = true) (h3 : d.py.canLay0 = true) (h4 : d.py.depth ≤ n) : Od n d := ⟨h1, h2, h3, h4⟩
end
theorem DS.mid {K : PySem.W.Frag} {b : Bs} {ρ : List Sl} {ts : TS} {mid nx bk ct : List Sl → Prop} {rt : D → Prop} (h : DS K b ρ ts mid rt bk ct) (i : ∀ ρ, mid ρ → nx ρ) : DS K b ρ ts nx rt bk ct := fun Hf H σ D fr n r bk ct =>
  h Hf H σ D fr (fun ρ' σ' Hf' H' e f q => n ρ' σ' Hf' H' e f (i ρ' q)) r bk ct
end G

set_option Elab.async false
set_option linter.all false
set_option maxRecDepth 100000
set_option maxHeartbeats 4000000
/-! DComp: list comprehensions over data. -/
namespace G
open PySem PySem.Spec PyProof.Rows L2
/-- slots forgotten -/
def wipeR (ρ : List Sl) : List Nat → List Sl
  | [] => ρ
  | v :: vs => (wipeR ρ vs).set v .no
section
variable {K : PySem.W.Frag} {b : Bs} {ρ : List Sl} {Hf H Hf' H' : Hp} {σ : L2.St}
theorem wipe_at (σ : L2.St) (i : Nat) : ∀ vs : List Nat, (L2.wipe σ vs)[i]? = if i ∈ vs then σ[i]?.map (fun _ => none) else σ[i]?
  | [] => by simp [L2.wipe]
  | v :: vs => by
    show ((L2.wipe σ vs).set v none)[i]? = _
    have ih := wipe_at σ i vs
    by_cases z : v = i
    · subst z
      rw [List.getElem?_set]
      simp only [if_true, List.mem_cons, true_or, L2.wipe_length]
      by_cases h : v < σ.length
      · simp [h]
      · simp [h, List.getElem?_eq_none (Nat.not_lt.mp h)]
    · rw [List.getElem?_set_ne z, ih]
      have : i ≠ v := fun y => z y.symm
      simp [List.mem_cons, this]
theorem wipe_wipe (σ : L2.St) (vs : List Nat) : L2.wipe (L2.wipe σ vs) vs = L2.wipe σ vs := by
  apply List.ext_getElem?
  intro i
  rw [wipe_at, wipe_at]
  by_cases h : i ∈ vs
  · rw [if_pos h, if_pos h]
    cases σ[i]? <;> rfl
  · rw [if_neg h, if_neg h]
theorem Fm.wipe (f : Fm K b Hf H σ ρ) : ∀ vs : List Nat, Fm K b Hf H (L2.wipe σ vs) (wipeR ρ vs)
  | [] => f
  | _ :: vs => (f.wipe vs).drop
/-- what a walk yields: the data of l, one by one -/
def ItD (K : PySem.W.Frag) (b : Bs) (J : It) (l : List D) (Hf : Hp) : Prop := ∀ Hf2 H2, Ex Hf Hf2 → Ex Hf2 H2 → ∀ i : Nat, (i < l.length → J.go i H2 ∧ ∀ x H3, J.yld i H2 x H3 → ∃ Hf3 d, l[i]? = some d ∧ Rp K Hf3 x d ∧ (∀ σ ρ, Fm K b Hf2 H2 σ ρ → Fm K b Hf3 H3 σ ρ) ∧ Up b Hf2 H2 Hf3 H3) ∧ (l.length = i → J.stop i H2)
def DI (K : PySem.W.Frag) (b : Bs) (ρ : List Sl) (wi : TI) (Q : List D → Prop) : Prop := ∀ (Hf H : Hp) (σ : L2.St) (k : It → Hp → Prop), Fm K b Hf H σ ρ →
  (∀ J l Hf' H', Up b Hf H Hf' H' → Fm K b Hf' H' σ ρ → ItD K b J l Hf' → Q l → k J H') → wi σ H k
/-- targets of a comprehension -/
def DGw (K : PySem.W.Frag) (b : Bs) (ρ : List Sl) (g : TG) (x : D) (vs : List Nat) (Q : List Sl → Prop) : Prop := ∀ (Hf H : Hp) (σ : L2.St) (v : V) (k : L2.St → Hp → Prop), Fm K b Hf H σ ρ → Rp K Hf v x →
  (∀ ρ' σ', Fm K b Hf H σ' ρ' → L2.wipe σ' vs = L2.wipe σ vs → Q ρ' → k σ' H) → g v σ H k
theorem up_not {D : Addr} (x : Exit K b Hf H) (hD : H D = none) : ¬ b.mt D := fun z => z.elim (fun z => by
  obtain ⟨_, _, o, h3, _⟩ := x.pens D z
  rw [hD] at h3; cases h3) fun z => by
  obtain ⟨q, hq, e⟩ := List.mem_map.mp z
  obtain ⟨_, _, _, h4⟩ := x.tabs q hq
  exact h4.ne (Or.inl hD) e
theorem Fm.again (f : Fm K b Hf H σ ρ) (x : Exit K b Hf' H') (u : Up b Hf H Hf' H') : Fm K b Hf' H' σ ρ :=
  f.step x u.1 fun a xs h1 h2 h3 h4 => by
    have n : ¬ b.mt a := fun z => z.elim h4 fun z => by
      obtain ⟨q, hq, e⟩ := List.mem_map.mp z
      obtain ⟨_, _, _, t⟩ := f.ex.tabs q hq
      exact t.ne (Or.inr ⟨xs, h1⟩) e
    obtain ⟨k1, k2⟩ := u.2 a _ h1 n
    exact ⟨k2 h2, k1⟩
/-- a list that none but the body knows is written -/
theorem Exit.work (x : Exit K b Hf H) {D : Addr} {o : Option HO} (nf : Hf D = none) (nb : b.B D = none) (nm : ¬ b.mt D) (hH : ∀ a, a ≠ D → H' a = H a) : Exit K b Hf H' := by
  refine { exF := fun a u e => ?_, ex0 := x.ex0, exB := fun a u e => ?_, frz := x.frz, pens := fun p hp => ?_, tabs := fun p hp => ?_ }
  · rw [hH a (ne_of_none e nf)]; exact x.exF a u e
  · rw [hH a (ne_of_none e nb)]; exact x.exB a u e
  · obtain ⟨h1, h2, ob, h3, h4⟩ := x.pens p hp
    exact ⟨h1, h2, ob, by rw [hH p (fun z => nm (by rw [← z]; exact Bs.mtM hp))]; exact h3, h4⟩
  · obtain ⟨h1, h2, h3, h4⟩ := x.tabs p hp
    exact ⟨h1, h2, h3, h4.up (Ex.refl _) (hH p.1 fun z => nm (by rw [← z]; exact Bs.mtT hp))⟩
theorem dn_lc {wi : TI} {g : TG} {tt : TT} {te : TE} {vs : List Nat} {R : List D → Prop}
    (hi : DI K b ρ wi fun l => ∃ I : Nat → List D → Prop, I 0 [] ∧ (∀ i d acc, l[i]? = some d → I i acc → DGw K b (wipeR ρ vs) g d vs fun ρ2 => DT K b ρ2 tt fun c => if c = true then DE K b ρ2 te fun y => acc.length < 16000 ∧ I (i + 1) (acc ++ [y]) else I (i + 1) acc) ∧ ∀ acc, I l.length acc → R acc) :
    DN K b ρ (tLc wi g tt te vs) R := fun Hf H σ k fr c => by
  refine hi Hf H σ _ fr fun J l Hf1 H1 e1 f1 it ⟨I, h0, hs, hd⟩ => ?_
  intro D hD
  have nf := f1.ex.exF.no hD
  have nb := f1.ex.exB.no hD
  have nm := up_not f1.ex hD
  have upW : ∀ {Hf2 H2 H3 : Hp}, Up b Hf1 H1 Hf2 H2 → (∀ a, a ≠ D → H3 a = H2 a) → Up b Hf1 H1 Hf2 H3 := fun u hH => ⟨u.1, fun a o h n => by
    obtain ⟨k1, k2⟩ := u.2 a o h n
    exact ⟨by rw [hH a (ne_of_none h hD)]; exact k1, k2⟩⟩
  have updH : ∀ (H2 : Hp) (o : HO) (a : Addr), a ≠ D → upd H2 D o a = H2 a := fun H2 o a n => upd_ne n
  refine ⟨fun i m H2 => ∃ Hf2 acc ds, Exit K b Hf2 H2 ∧ Up b Hf1 H1 Hf2 H2 ∧ H2 D = some (.lst acc) ∧ Hf2 D = none ∧ RpA K Hf2 acc ds ∧ I i ds ∧ i ≤ l.length ∧ m = l.length - i,
    ⟨_, Hf1, [], [], f1.ex.work (o := none) nf nb nm (updH H1 _), upW Up.refl (updH H1 _), upd_same, nf, .nil, h0, Nat.zero_le _, rfl⟩, ?_⟩
  rintro i m H2 ⟨Hf2, acc, ds, x2, u2, hD2, nf2, ra, hI, hl, rfl⟩
  have it2 := it Hf2 H2 u2.1 x2.exF i
  by_cases hlt : i < l.length
  · right
    obtain ⟨go, y⟩ := it2.1 hlt
    refine ⟨go, fun H' => ∃ Hf2 acc ds, Exit K b Hf2 H' ∧ Up b Hf1 H1 Hf2 H' ∧ H' D = some (.lst acc) ∧ Hf2 D = none ∧ RpA K Hf2 acc ds ∧ I (i + 1) ds, fun H' z => ?_, fun x H3 hy => ?_⟩
    · obtain ⟨Hf', acc', ds', z1, z2, z3, z4, z5, z6⟩ := z
      exact ⟨l.length - (i + 1), by omega, Hf', acc', ds', z1, z2, z3, z4, z5, z6, hlt, rfl⟩
    · obtain ⟨Hf3, d, hd', rx, fm3, u3⟩ := y x H3 hy
      have F2 := f1.again x2 u2
      have F3 := fm3 _ _ F2
      refine hs i d ds hd' hI Hf3 H3 (L2.wipe σ vs) x _ (F3.wipe vs) rx fun ρ2 σ2 F4 hw q => ⟨hw.trans ?_, ?_⟩
      · exact wipe_wipe σ vs
      refine q Hf3 H3 σ2 _ F4 fun cc Hf4 H4 u4 F5 q2 => ?_
      obtain ⟨a3, b3⟩ := u3.2 D _ hD2 nm
      obtain ⟨a4, b4⟩ := u4.2 D _ a3 nm
      have n4 := b4 (b3 nf2)
      have ra4 := ra.up (u3.1.trans u4.1)
      have u04 := (u2.trans u3).trans u4
      cases cc with
      | true =>
        refine iteT ((show DE K b ρ2 te _ from q2) Hf4 H4 σ2 _ F5 fun v y Hf5 H5 u5 F6 ry ⟨hz, hI'⟩ => ?_)
        obtain ⟨a5, b5⟩ := u5.2 D _ a4 nm
        have n5 := b5 n4
        refine ⟨acc, a5, ?_, Hf5, acc ++ [v], ds ++ [y], F6.ex.work (o := none) n5 nb nm (updH H5 _), upW (u04.trans u5) (updH H5 _), upd_same, n5, (ra4.up u5.1).app (.cons ry .nil), hI'⟩
        exact Nat.lt_of_lt_of_le (show acc.length < 16000 by rw [ra.len]; exact hz) (by decide)
      | false => exact iteF ⟨Hf4, acc, ds, F5.ex, u04, a4, n4, ra4, q2⟩
  · left
    have e : i = l.length := by omega
    subst e
    refine ⟨it2.2 rfl, ?_⟩
    have dl : ∀ a, a ≠ D → del H2 D a = H2 a := fun a n => del_ne n
    have eq : upd (del H2 D) D (.lst acc) = H2 := by
      funext a
      by_cases z : a = D
      · subst z; rw [upd_same, hD2]
      · rw [upd_ne z, del_ne z]
    have uD := upW u2 dl
    have q := c D acc ds Hf2 (del H2 D) (e1.trans uD) (f1.again (x2.work (o := none) nf2 nb nm dl) uD) del_same ra (hd ds hI)
    rw [eq] at q
    exact q
theorem wipe_set (σ : L2.St) {i : Nat} {o : Option V} {vs : List Nat} (h : i ∈ vs) : L2.wipe (σ.set i o) vs = L2.wipe σ vs := by
  apply List.ext_getElem?
  intro j
  rw [wipe_at, wipe_at]
  by_cases z : i = j
  · subst z
    rw [if_pos h, if_pos h, List.getElem?_set]
    by_cases y : i < σ.length
    · simp [y]
    · simp [y, List.getElem?_eq_none (Nat.not_lt.mp y)]
  · rw [List.getElem?_set_ne z]
def DGws (K : PySem.W.Frag) (b : Bs) (ρ : List Sl) (g : TGs) (xs : List D) (ws : List Nat) (Q : List Sl → Prop) : Prop := ∀ (Hf H : Hp) (σ : L2.St) (vs : List V) (k : L2.St → Hp → Prop), Fm K b Hf H σ ρ → RpA K Hf vs xs →
  (∀ ρ' σ', Fm K b Hf H σ' ρ' → L2.wipe σ' ws = L2.wipe σ ws → Q ρ' → k σ' H) → g vs σ H k
variable {x : D} {xs : List D} {ws : List Nat} {Q : List Sl → Prop} {g : TG} {gs : TGs}
theorem dgw_name {i : Nat} (h : i ∈ ws) (q : Q (ρ.set i (.sh x))) : DGw K b ρ (gName i) x ws Q := fun Hf H σ v k fr r c => c _ _ (fr.set r) (wipe_set σ h) q
theorem dgws_nil (q : Q ρ) : DGws K b ρ gNil [] ws Q := fun Hf H σ vs k fr r c => by
  cases r
  exact ⟨rfl, c _ _ fr rfl q⟩
theorem dgws_cons (h : DGw K b ρ g x ws fun ρ' => DGws K b ρ' gs xs ws Q) : DGws K b ρ (gCons g gs) (x :: xs) ws Q := fun Hf H σ vs k fr r c => by
  cases r with
  | cons r1 r2 =>
    refine ⟨_, _, rfl, ?_⟩
    refine h Hf H σ _ _ fr r1 fun ρ' σ' f w q => ?_
    exact q Hf H σ' _ _ f r2 fun ρ2 σ2 f2 w2 q2 => c ρ2 σ2 f2 (w2.trans w) q2
theorem dgw_tup {n : Nat} {l : List D} (hx : x = .tup l) (hn : l.length = n) (h : DGws K b ρ gs l ws Q) : DGw K b ρ (gTup K n gs) x ws Q := fun Hf H σ v k fr r c => by
  subst hx
  cases r with
  | tup h1 h2 => exact ⟨_, _, rfl, fr.ex.exF.st h1, by rw [h2.len]; exact hn, h Hf H σ _ k fr h2 c⟩
/-! what is walked -/
variable {R : List D → Prop} {ta : TE} {tr : TA}
theorem itd_same {J : It} {l : List D} {Hf : Hp} (h : ∀ Hf2 H2, Ex Hf Hf2 → Ex Hf2 H2 → ∀ i : Nat, (i < l.length → J.go i H2 ∧ ∀ x H3, J.yld i H2 x H3 → H3 = H2 ∧ ∃ d, l[i]? = some d ∧ Rp K Hf2 x d) ∧ (l.length ≤ i → J.stop i H2)) : ItD K b J l Hf := fun Hf2 H2 e1 e2 i => by
  obtain ⟨h1, h2⟩ := h Hf2 H2 e1 e2 i
  refine ⟨fun hi => ⟨(h1 hi).1, fun x H3 y => ?_⟩, fun e => h2 (Nat.le_of_eq e)⟩
  obtain ⟨rfl, d, hd, r⟩ := (h1 hi).2 x H3 y
  exact ⟨Hf2, d, hd, r, fun _ _ f => f, Up.refl⟩
def rngD (lo : Int) (m : Nat) : List D := (List.range m).map fun (i : Nat) => D.int (lo + (i : Int))
theorem rngD_len {lo : Int} {m : Nat} : (rngD lo m).length = m := by unfold rngD; rw [List.length_map, List.length_range]
theorem rngD_at {lo : Int} {m i : Nat} (h : i < m) : (rngD lo m)[i]? = some (.int (lo + i)) := by
  unfold rngD
  rw [List.getElem?_map, List.getElem?_range h] <;> rfl
theorem itd_range {lo : Int} {m : Nat} {Hf : Hp} : ItD K b (Itr lo m) (rngD lo m) Hf := itd_same fun Hf2 H2 _ _ i => by
  rw [rngD_len]
  refine ⟨fun h => ⟨h, fun x H3 y => ?_⟩, fun h => h⟩
  obtain ⟨e1, e2⟩ := y
  exact ⟨e1, _, rngD_at h, by rw [e2]; exact .int _⟩
theorem di_range1 (h : DA K b ρ tr fun l => ∃ j : Int, l = [.int j] ∧ -(2 ^ 60) ≤ j ∧ j ≤ 2 ^ 60 ∧ R (rngD 0 j.toNat)) : DI K b ρ (iRng1 tr) R := fun Hf H σ k fr c => by
  refine h Hf H σ _ fr fun vs ds Hf1 H1 e1 f1 r1 ⟨j, e, l1, l2, q⟩ => ?_
  subst e
  cases r1 with
  | cons q1 r1 =>
    cases r1
    have e := q1.int_inv
    subst e
    exact ⟨j, rfl, by omega, by omega, c _ _ Hf1 H1 e1 f1 itd_range q⟩
theorem di_range2 (h : DA K b ρ tr fun l => ∃ i j : Int, l = [.int i, .int j] ∧ -(2 ^ 60) ≤ i ∧ i ≤ 2 ^ 60 ∧ -(2 ^ 60) ≤ j ∧ j ≤ 2 ^ 60 ∧ R (rngD i (j - i).toNat)) : DI K b ρ (iRng2 tr) R := fun Hf H σ k fr c => by
  refine h Hf H σ _ fr fun vs ds Hf1 H1 e1 f1 r1 ⟨i, j, e, l1, l2, l3, l4, q⟩ => ?_
  subst e
  cases r1 with
  | cons q1 r1 =>
    cases r1 with
    | cons q2 r1 =>
      cases r1
      have e := q1.int_inv
      subst e
      have e := q2.int_inv
      subst e
      exact ⟨i, j, rfl, by omega, c _ _ Hf1 H1 e1 f1 itd_range q⟩
theorem di_seq {Q : D → Prop} (h : DE K b ρ ta fun x => ∃ l, seqD x = some l ∧ R l) : DI K b ρ (iSeq K ta) R := fun Hf H σ k fr c => by
  refine h Hf H σ _ fr fun v x Hf1 H1 e1 f1 r1 ⟨l, el, q⟩ => ?_
  have ends : ∀ {xs : List V} {i : Nat}, RpA K Hf1 xs l → l.length ≤ i → xs.length ≤ i := fun {xs i} ra h => by rw [ra.len]; exact h
  have at_ : ∀ {xs : List V} {i : Nat}, RpA K Hf1 xs l → i < l.length → ∃ y, xs[i]? = some y := fun {xs i} ra h => ⟨xs[i]'(by rw [ra.len]; exact h), List.getElem?_eq_getElem _⟩
  cases r1 with
  | tup h1 a1 =>
    cases el
    refine ⟨_, rfl, Or.inr ⟨⟨_, f1.ex.exF.st h1⟩, c _ _ Hf1 H1 e1 f1 (itd_same fun Hf2 H2 x1 x2 i => ⟨fun hi => ?_, fun hi => ⟨_, x2.st (x1.st h1), ends a1 hi⟩⟩) q⟩⟩
    obtain ⟨y, hy⟩ := at_ a1 hi
    refine ⟨⟨_, y, x2.st (x1.st h1), hy⟩, fun z H3 w => ⟨w.1, ?_⟩⟩
    have e := w.2 _ (x2.st (x1.st h1))
    obtain ⟨d, hd, rd⟩ := a1.at' e
    exact ⟨d, hd, rd.up x1⟩
  | lst h1 a1 =>
    cases el
    refine ⟨_, rfl, Or.inl ⟨⟨_, SqL.of (f1.ex.exF _ _ h1)⟩, c _ _ Hf1 H1 e1 f1 (itd_same fun Hf2 H2 x1 x2 i => ⟨fun hi => ?_, fun hi => ⟨_, SqL.of (x2 _ _ (x1 _ _ h1)), ends a1 hi⟩⟩) q⟩⟩
    obtain ⟨y, hy⟩ := at_ a1 hi
    refine ⟨⟨_, y, SqL.of (x2 _ _ (x1 _ _ h1)), hy⟩, fun z H3 w => ⟨w.1, ?_⟩⟩
    have e := w.2 _ (SqL.of (x2 _ _ (x1 _ _ h1)))
    obtain ⟨d, hd, rd⟩ := a1.at' e
    exact ⟨d, hd, rd.up x1⟩
  | non => cases el
  | bl _ => cases el
  | int _ => cases el
  | str _ => cases el
  | ty _ => cases el
  | fn _ => cases el
  | dic _ _ _ => cases el
  | obj _ _ _ => cases el
  | exc _ _ _ => cases el
  | exc0 _ _ => cases el
/-- [f(x) for x in l], told by a function of data -/
theorem dn_map {wi : TI} {te : TE} {vs : List Nat} {i0 : Nat} (f : D → D) (h0 : i0 ∈ vs) (hi : DI K b ρ wi fun l => l.length ≤ 16000 ∧ (∀ d ∈ l, DE K b ((wipeR ρ vs).set i0 (.sh d)) te fun y => y = f d) ∧ R (l.map f)) : DN K b ρ (tLc wi (gName i0) tYes te vs) R := by
  refine dn_lc (fun Hf H σ k fr c => hi Hf H σ k fr fun J l Hf' H' u f' it ⟨hl, hd, hR⟩ => c J l Hf' H' u f' it ⟨fun i acc => acc = (l.take i).map f, by simp, fun i d acc hi hacc => ?_, fun acc hacc => ?_⟩)
  · refine dgw_name h0 fun Hf H σ k fr c => c true Hf H Up.refl fr (iteT ?_)
    have hm : d ∈ l := List.mem_of_getElem? hi
    refine (hd d hm).imp fun y hy => ?_
    have il : i < l.length := (List.getElem?_eq_some_iff.mp hi).1
    subst hacc
    refine ⟨?_, ?_⟩
    · rw [List.length_map, List.length_take]; omega
    · show List.map f (List.take i l) ++ [y] = List.map f (List.take (i + 1) l)
      rw [hy, List.take_succ, hi, List.map_append] <;> rfl
  · rw [hacc, List.take_length]
    exact hR
end
end G

set_option Elab.async false
set_option linter.all false
set_option maxRecDepth 100000
set_option maxHeartbeats 4000000
/-! DZip: loops over whatever is walked; zip, enumerate. -/
namespace G
open PySem PySem.Spec PyProof.Rows L2
section
variable {K : PySem.W.Frag} {b : Bs} {ρ : List Sl} {Hf H Hf' H' : Hp} {σ : L2.St} {R : List D → Prop} {ta : TE} {tr : TA} {wi : TI} {g : TG} {tb : TS} {nx bk ct : List Sl → Prop} {rt : D → Prop}
theorem ds_forI (h : DI K b ρ wi fun l => ∃ I : Nat → List Sl → Prop, I 0 ρ ∧ (∀ (i : Nat) d ρ', l[i]? = some d → I i ρ' → DG K b ρ' g d fun ρ2 => DS K b ρ2 tb (I (i + 1)) rt nx (I (i + 1))) ∧ ∀ ρ', I l.length ρ' → nx ρ') : DS K b ρ (tFor wi g tb) nx rt bk ct := fun Hf H σ D fr n r bk ct => by
  refine h Hf H σ _ fr fun J l Hf1 H1 e1 f1 it ⟨I, h0, hs, hd⟩ => ?_
  refine ⟨fun i m σ' H' => ∃ ρ' Hf', Ex Hf1 Hf' ∧ Fm K b Hf' H' σ' ρ' ∧ I i ρ' ∧ i ≤ l.length ∧ m = l.length - i, ⟨_, ρ, Hf1, Ex.refl _, f1, h0, Nat.zero_le _, rfl⟩, ?_⟩
  rintro i m σ' H' ⟨ρ', Hf', e, f, hI, hl, rfl⟩
  have it2 := it Hf' H' e f.ex.exF i
  by_cases hlt : i < l.length
  · right
    obtain ⟨go, y⟩ := it2.1 hlt
    refine ⟨go, fun σ3 H3 => ∃ ρ' Hf', Ex Hf1 Hf' ∧ Fm K b Hf' H3 σ3 ρ' ∧ I (i + 1) ρ', fun σ3 H3 z => ?_, fun x H3 hy => ?_⟩
    · obtain ⟨ρ3, Hf3, z1, z2, z3⟩ := z
      exact ⟨l.length - (i + 1), by omega, ρ3, Hf3, z1, z2, z3, hlt, rfl⟩
    · obtain ⟨Hf3, d, hd', rx, fm3, u3⟩ := y x H3 hy
      have e3 := e.trans u3.1
      refine hs i d ρ' hd' hI Hf3 H3 σ' x _ (fm3 _ _ f) rx fun ρ2 σ2 Hf2 H2 e2 f2 q => ?_
      exact q Hf2 H2 σ2 _ f2 (fun ρ4 σ4 Hf4 H4 e4 f4 q4 => ⟨ρ4, Hf4, e3.trans (e2.trans e4), f4, q4⟩) (fun v d Hf4 H4 e4 x4 r4 q4 => r v d Hf4 H4 (e1.1.trans (e3.trans (e2.trans e4))) x4 r4 q4)
        (fun ρ4 σ4 Hf4 H4 e4 f4 q4 => n ρ4 σ4 Hf4 H4 (e1.1.trans (e3.trans (e2.trans e4))) f4 q4) (fun ρ4 σ4 Hf4 H4 e4 f4 q4 => ⟨ρ4, Hf4, e3.trans (e2.trans e4), f4, q4⟩)
  · left
    have e' : i = l.length := by omega
    subst e'
    exact ⟨it2.2 rfl, n ρ' σ' H' |> fun _ => n ρ' σ' Hf' H' (e1.1.trans e) f (hd ρ' hI)⟩
/-- a pair is laid -/
theorem lay_pair {Hf2 H2 : Hp} {T : Addr} {x y : V} {d1 d2 : D} (e : Ex Hf2 H2) (hT : H2 T = none) (r1 : Rp K Hf2 x d1) (r2 : Rp K Hf2 y d2) :
    ∃ Hf3, Rp K Hf3 (.ref T) (.tup [d1, d2]) ∧ (∀ σ ρ, Fm K b Hf2 H2 σ ρ → Fm K b Hf3 (upd H2 T (.tup [x, y])) σ ρ) ∧ Up b Hf2 H2 Hf3 (upd H2 T (.tup [x, y])) := by
  have n := e.no hT
  refine ⟨upd Hf2 T (.tup [x, y]), Rp.tup (SqT.of upd_same) (.cons (r1.up (Ex.new n)) (.cons (r2.up (Ex.new n)) .nil)), fun σ ρ f => f.put hT, Up.new hT n⟩
def zipD (l m : List D) : List D := List.zipWith (fun x y => D.tup [x, y]) l m
theorem zipD_at {l m : List D} {i : Nat} {x y : D} (h1 : l[i]? = some x) (h2 : m[i]? = some y) : (zipD l m)[i]? = some (.tup [x, y]) := by
  unfold zipD
  rw [List.getElem?_zipWith, h1, h2]
theorem zipD_len {l m : List D} : (zipD l m).length = min l.length m.length := by unfold zipD; rw [List.length_zipWith]
theorem di_zip (h : DA K b ρ tr fun l => ∃ x y lx ly, l = [x, y] ∧ ((x = .lst lx ∧ y = .lst ly) ∨ (x = .tup lx ∧ y = .tup ly)) ∧ R (zipD lx ly)) : DI K b ρ (RZ.iZipA K tr) R := fun Hf H σ k fr c => by
  refine h Hf H σ _ fr fun vs ds Hf1 H1 e1 f1 r1 ⟨x, y, lx, ly, e, hk, q⟩ => ?_
  subst e
  cases r1 with
  | cons r1 rr =>
    cases rr with
    | cons r2 rr =>
      cases rr
      rcases hk with ⟨rfl, rfl⟩ | ⟨rfl, rfl⟩
      · cases r1 with
        | lst h1 a1 =>
          cases r2 with
          | lst h2 a2 =>
            refine ⟨_, _, _, _, rfl, Or.inl ⟨SqL.of (f1.ex.exF _ _ h1), SqL.of (f1.ex.exF _ _ h2), c _ _ Hf1 H1 e1 f1 (fun Hf2 H2 x1 x2 i => ⟨fun hi => ?_, fun hi => ?_⟩) q⟩⟩
            · rw [zipD_len] at hi
              have i1 : i < lx.length := by omega
              have i2 : i < ly.length := by omega
              have g1 := SqL.of (K := K) (x2 _ _ (x1 _ _ h1))
              have g2 := SqL.of (K := K) (x2 _ _ (x1 _ _ h2))
              obtain ⟨v1, w1, s1⟩ := a1.at (List.getElem?_eq_getElem i1)
              obtain ⟨v2, w2, s2⟩ := a2.at (List.getElem?_eq_getElem i2)
              refine ⟨⟨_, _, v1, v2, g1, g2, w1, w2⟩, fun v H3 z => ?_⟩
              obtain ⟨T, x', y', rfl, hT, rfl, z1, z2⟩ := z
              have y1 := z1 _ g1
              have y2 := z2 _ g2
              rw [w1] at y1
              rw [w2] at y2
              cases y1
              cases y2
              obtain ⟨Hf3, p1, p2, p3⟩ := lay_pair (b := b) x2 hT (s1.up x1) (s2.up x1)
              exact ⟨Hf3, _, zipD_at (List.getElem?_eq_getElem i1) (List.getElem?_eq_getElem i2), p1, p2, p3⟩
            · rw [zipD_len] at hi
              refine ⟨_, _, SqL.of (x2 _ _ (x1 _ _ h1)), SqL.of (x2 _ _ (x1 _ _ h2)), ?_⟩
              rw [a1.len, a2.len]
              omega
      · cases r1 with
        | tup h1 a1 =>
          cases r2 with
          | tup h2 a2 =>
            refine ⟨_, _, _, _, rfl, Or.inr ⟨f1.ex.exF.st h1, f1.ex.exF.st h2, c _ _ Hf1 H1 e1 f1 (fun Hf2 H2 x1 x2 i => ⟨fun hi => ?_, fun hi => ?_⟩) q⟩⟩
            · rw [zipD_len] at hi
              have i1 : i < lx.length := by omega
              have i2 : i < ly.length := by omega
              have g1 := x2.st (x1.st h1)
              have g2 := x2.st (x1.st h2)
              obtain ⟨v1, w1, s1⟩ := a1.at (List.getElem?_eq_getElem i1)
              obtain ⟨v2, w2, s2⟩ := a2.at (List.getElem?_eq_getElem i2)
              refine ⟨⟨_, _, v1, v2, g1, g2, w1, w2⟩, fun v H3 z => ?_⟩
              obtain ⟨T, x', y', rfl, hT, rfl, z1, z2⟩ := z
              have y1 := z1 _ g1
              have y2 := z2 _ g2
              rw [w1] at y1
              rw [w2] at y2
              cases y1
              cases y2
              obtain ⟨Hf3, p1, p2, p3⟩ := lay_pair (b := b) x2 hT (s1.up x1) (s2.up x1)
              exact ⟨Hf3, _, zipD_at (List.getElem?_eq_getElem i1) (List.getElem?_eq_getElem i2), p1, p2, p3⟩
            · rw [zipD_len] at hi
              refine ⟨_, _, x2.st (x1.st h1), x2.st (x1.st h2), ?_⟩
              rw [a1.len, a2.len]
              omega
/-- enumerate of a list -/
def enumD (l : List D) : List D := zipD (rngD 0 l.length) l
theorem di_enum (h : DE K b ρ ta fun x => ∃ l, x = .lst l ∧ R (enumD l)) : DI K b ρ (iEnum K (tCons ta tNil)) R := fun Hf H σ k fr c => by
  refine h Hf H σ _ fr fun v x Hf1 H1 e1 f1 r1 ⟨l, e, q⟩ => ?_
  subst e
  cases r1 with
  | lst h1 a1 =>
    have len : (enumD l).length = l.length := by unfold enumD; rw [zipD_len, rngD_len, Nat.min_self]
    refine ⟨_, _, rfl, SqL.of (f1.ex.exF _ _ h1), c _ _ Hf1 H1 e1 f1 (fun Hf2 H2 x1 x2 i => ⟨fun hi => ?_, fun hi => ?_⟩) q⟩
    · rw [len] at hi
      have g1 := SqL.of (K := K) (x2 _ _ (x1 _ _ h1))
      obtain ⟨v1, w1, s1⟩ := a1.at (List.getElem?_eq_getElem hi)
      refine ⟨⟨_, v1, g1, w1⟩, fun v H3 z => ?_⟩
      obtain ⟨T, x', rfl, hT, rfl, z1⟩ := z
      have y1 := z1 _ g1
      rw [w1] at y1
      cases y1
      obtain ⟨Hf3, p1, p2, p3⟩ := lay_pair (b := b) x2 hT (Rp.int (K := K) (i : Int)) (s1.up x1)
      refine ⟨Hf3, _, ?_, p1, p2, p3⟩
      unfold enumD
      have := rngD_at (lo := 0) hi
      rw [Int.zero_add] at this
      exact zipD_at this (List.getElem?_eq_getElem hi)
    · rw [len] at hi
      exact ⟨_, SqL.of (x2 _ _ (x1 _ _ h1)), by rw [a1.len]; exact Nat.le_of_eq hi⟩
end
end G

set_option Elab.async false
set_option linter.all false
set_option maxRecDepth 100000
set_option maxHeartbeats 4000000
/-! DTab: defs that make lambdas: they are handed the tables. -/
namespace G
open PySem PySem.Spec PyProof.Rows L2
/-- what a def that makes lambdas promises over data: the tables T stand, and stand again -/
def spT (K : PySem.W.Frag) (T : List (Addr × Str)) (F : DF) : Sp := fun vs H Q E => ∃ (b : Bs) (Hf : Hp) (ss : List Sl) (R : D → Prop) (X : Addr → List (Str × D) → Prop),
  b.T = T ∧ Exit K b Hf H ∧ Paired (ArgOk K b.M Hf) vs ss ∧ F ss R X ∧ (∀ v d Hf' H', Exit K (b.cut Hf H) Hf' H' → Rp K Hf' v d → R d → Q v H') ∧
  (∀ C fs d Hf' H', Exit K (b.cut Hf H) Hf' H' → ExD K Hf' d fs → X C fs → E (.ref C) d H')
section
variable {P : Program} {w : World} {K : PySem.W.Frag} {mg : Str → Option Value} {base : Heap} {N ps : List Str} {x qual : Str} {st : Stmt} {f : Addr} {fd : FuncData} {k : Nat} {c : Bool} {T : List (Addr × Str)}
theorem startT_ok {b : Bs} {Hf H : Hp} {vs : List V} {ss : List Sl} (hl : vs.length = ps.length) (x : Exit K b Hf H) (ha : Paired (ArgOk K b.M Hf) vs ss) :
    Fm K (b.cut Hf H) Hf H (L2.start N vs) (ss ++ List.replicate (N.length - ps.length) .no) := by
  have hvs := ha.length
  have own : ∀ i a, ¬ Own (L2.start N vs) (ss ++ List.replicate (N.length - ps.length) .no) i a := fun i a ⟨⟨ds, h1⟩, h2⟩ => by
    by_cases z : i < ss.length
    · rw [List.getElem?_append_left z] at h1
      have hv : i < vs.length := by omega
      exact paired_at ha (List.getElem?_eq_getElem hv) h1
    · rw [List.getElem?_append_right (by omega), List.getElem?_replicate] at h1
      split at h1 <;> cases h1
  refine { ex := x.cut, len := ?_, sl := fun i o s h1 h2 => ?_, mine := fun i a z => (own i a z).elim, sep := fun i j a z _ => (own i a z).elim }
  · unfold L2.start
    simp
    omega
  · unfold L2.start at h1
    by_cases z : i < vs.length
    · rw [List.getElem?_append_left (by simpa using z), List.getElem?_map, List.getElem?_eq_getElem z] at h1
      simp at h1
      subst h1
      rw [List.getElem?_append_left (by omega)] at h2
      have q := paired_at ha (List.getElem?_eq_getElem z) h2
      match s, q with
      | .sh d, q => exact q
      | .pen, q => exact q
    · rw [List.getElem?_append_right (by omega), List.getElem?_replicate] at h2
      split at h2
      · cases h2
        match o with
        | none => trivial
        | some _ => trivial
      · cases h2
theorem fn_dataT {Fd : DF} (F : Fun K x qual st f fd) (S : FnScope N ps (defScope st)) (len : ∀ ss R X, Fd ss R X → ss.length = ps.length)
    (body : ∀ (cdv : Value) (A : Around) (outer : List Env) (s : Shared) (H : Hp) (E : XK) (pl : Pins), fd.code = cdv → Rm c k (A.deeper (envOfC qual (defScope st) s.heap.objs.size f cdv)) →
      ∃ t, PSs (cxG P w K mg base N qual (defScope st) f cdv A outer s H E c pl) (defBody st) t ∧ ∀ (b : Bs) ss R X, b.T = T → Fd ss R X → (∀ ρ, EL K b ρ (fun _ => E) X) →
        DS K b (ss ++ List.replicate (N.length - ps.length) .no) t (fun _ => R .non) R (fun _ => False) (fun _ => False)) :
    FnG P w K mg base c (k + 1) f fd ps (fun _ => spT K T Fd) := by
  have hlen : ∀ (pl : Pins) vs H Q E, spT K T Fd vs H Q E → vs.length = ps.length := fun pl vs H Q E h => by
    obtain ⟨b, Hf, ss, R, X, h1, h2, h3, h4, _⟩ := h
    rw [h3.length]
    exact len ss R X h4
  refine fn_goC F S hlen fun cdv A outer s H vs Q E pl hc hr hsp => ?_
  have hl := hlen pl _ _ _ _ hsp
  obtain ⟨b, Hf, ss, R, X, h1, h2, h3, h4, h5, h6⟩ := hsp
  obtain ⟨t, ht, hd⟩ := body cdv A outer s H E pl hc hr
  refine ⟨t, ht, ?_⟩
  exact hd (b.cut Hf H) ss R X h1 h4 (fun ρ Hf' H' σ' fr C fs d e1 e2 => h6 C fs d Hf' H' fr.ex e1 e2) Hf H (L2.start N vs) _ (startT_ok hl h2 h3)
    (fun ρ' σ' Hf' H' e fr q => h5 .non .non Hf' H' fr.ex .non q) (fun v d Hf' H' e x r q => h5 v d Hf' H' x r q) (fun _ _ _ _ _ _ z => z.elim) (fun _ _ _ _ _ _ z => z.elim)
end
theorem de_callT {K : PySem.W.Frag} {b : Bs} {ρ : List Sl} {tr : TA} {Q : D → Prop} {T : List (Addr × Str)} {F : DF} {E : L2.St → XK} {X : Addr → List (Str × D) → Prop} (hT : b.T = T) (hE : EL K b ρ E X) (h : DC K b ρ tr fun ss => F ss Q X) : DE K b ρ (tCallG (fun _ => spT K T F) [] E tr) Q := fun Hf H σ k fr c => by
  refine h Hf H σ _ fr fun vs ss Hf1 H1 e1 f1 r1 q => ?_
  refine ⟨b, Hf1, ss, Q, X, hT, f1.ex, r1, q, fun v d Hf' H' x r z => ?_, fun C fs d Hf' H' x e z => ?_⟩
  · obtain ⟨u, f2⟩ := f1.back x
    exact c v d Hf' H' (e1.trans u) f2 r z
  · obtain ⟨u, f2⟩ := f1.back x
    exact hE Hf' H' σ f2 C fs d e z
/-! ### a def that stands in a name is called -/
section
variable {X : Cx} {E : L2.St → XK} {x : Str} {q pos : Pos} {e : Expr} {es : List Expr} {t : TA} {i k : Nat}
/-- call(e, ..), the name holding one of the defs of tab -/
def tCallV (tab : List (Addr × Sp)) (i : Nat) (E : L2.St → XK) (t : TA) : TE := fun σ H Q => ∃ f sp, (f, sp) ∈ tab ∧ σ[i]? = some (some (.ref f)) ∧ t σ H fun vs H1 => sp vs H1 Q (E σ)
theorem pe_goV {tab : List (Addr × Sp)} (F : ∀ f sp, (f, sp) ∈ tab → ∃ fd ps, FnG X.prog X.w X.K X.mg X.base true k f fd ps (fun _ => sp) ∧ PySem.W.keepIn X.K (.ref f) = true ∧ Binds X.K fd ps []) (hr : Rm true k X.A) (hx : Lets X E) (ha : PA X (e :: es) t)
    (hN : X.N[i]? = some x := by rfl) (hv : Vis X.env.scope x := by first | exact Or.inl rfl | exact Or.inr (Or.inl rfl) | exact Or.inr (Or.inr rfl)) (hd : (x == ("__debug__" : Str)) = false := by decide) (hcd : (x == ("__classdict__" : Str)) = false := by decide) (he : starEach (e :: es) X.env = (false, eval e X.env) :: starEach es X.env := by rfl) (hpl : (backTo pos (starEach es X.env)).any (·.1) = false := by rfl) :
    PE X (.Call (.Name x q) (e :: es) [] pos) (tCallV tab i E t) := by
  refine ⟨fun pins s σ H Q I h => ?_⟩
  obtain ⟨f, sp, hm, hs, h⟩ := h
  obtain ⟨fd, ps, G, hk, hb⟩ := F f sp hm
  refine wpAny_Call_Name_kw (thn ((pe_var (pos := q) (i := i) hN hv hd hcd).run pins s σ H (fun v H1 => v = .ref f ∧ H1 = H) I ⟨.ref f, hs, rfl, rfl⟩) fun u s0 z => ?_)
  obtain ⟨v, H0, I0, r0, ev, eH⟩ := z
  subst ev
  subst eH
  cases (show u = Value.ref f from r0)
  refine PySem.W.callWith_K (h₀ := X.base) I0.ok.mod.kin hk (thn (ha.run pos pins s0 σ H0 _ I0 h) ?_) he hpl
  intro us s1 z
  obtain ⟨vs, H1, I1, r, q⟩ := z
  exact ⟨I1.kIn, run_go (pl := []) G hr (fun p h => nomatch h) hb hx I1 r q⟩
end
theorem de_callV {K : PySem.W.Frag} {b : Bs} {ρ : List Sl} {tr : TA} {Q : D → Prop} {tab : List (Addr × Sp)} {i : Nat} {f : Addr} {F : DF} {E : L2.St → XK} {X : Addr → List (Str × D) → Prop} (hm : (f, spD K F) ∈ tab) (hi : ρ[i]? = some (.sh (.fn f))) (hE : EL K b ρ E X) (h : DC K b ρ tr fun ss => F ss Q X) : DE K b ρ (tCallV tab i E tr) Q := fun Hf H σ k fr c => by
  have hl : i < σ.length := by rw [fr.len]; exact (List.getElem?_eq_some_iff.mp hi).1
  have ho : σ[i]? = some σ[i] := List.getElem?_eq_getElem hl
  have z := fr.sl i _ _ ho hi
  generalize σ[i] = o at ho z
  match o, z with
  | none, z => exact z.elim
  | some v, z =>
    cases (show Rp K Hf v (.fn f) from z)
    exact ⟨f, _, hm, ho, (show tCallG (fun _ => spD K F) [] E tr σ H k from de_call hE h Hf H σ k fr c)⟩
theorem nodup_fst : ∀ {l : List (Addr × Str)}, (l.map (·.1)).Nodup → ∀ {p q : Addr × Str}, p ∈ l → q ∈ l → p.1 = q.1 → p = q
  | [], _, _, _, h, _, _ => by cases h
  | c :: r, hn, p, q, hp, hq, e => by
    have a := List.nodup_cons.mp (show (c.1 :: r.map (·.1)).Nodup from hn)
    rcases List.mem_cons.mp hp with e1 | h1
    · rcases List.mem_cons.mp hq with e2 | h2
      · rw [e1, e2]
      · exact (a.1 (List.mem_map.mpr ⟨q, h2, by rw [← e1, e]⟩)).elim
    · rcases List.mem_cons.mp hq with e2 | h2
      · exact (a.1 (List.mem_map.mpr ⟨p, h1, by rw [← e2, e]⟩)).elim
      · exact nodup_fst a.2 h1 h2 e
end G

set_option Elab.async false
set_option linter.all false
set_option maxRecDepth 100000
set_option maxHeartbeats 4000000
/-! DMix: zip of lists and tuples in any mix. -/
namespace G
open PySem PySem.Spec PyProof.Rows L2
/-- at a stands a tuple (true) or a list (false) -/
def SqB (K : PySem.W.Frag) : Bool → Hp → Addr → List V → Prop
  | true => SqT K
  | false => SqL K
def HSeq : Bool → Heap → Addr → Array Value → Prop
  | true => fun h a xs => h.IsTuple a xs
  | false => fun h a xs => h.IsList a xs
def HIt : Bool → Heap → Addr → Addr → Nat → Prop
  | true => fun h i a k => h.IsTupleIter i a k
  | false => fun h i a k => h.IsListIter i a k
def itObj (t : Bool) (a : Addr) : Obj := match t with
  | true => { cls := .type "tuple_iterator", data := .fields #[.ref a, .int 0 0] }
  | false => { cls := .type "list_iterator", data := .fields #[.ref a, .int 0 0] }
section
variable {prog : Program} {w : World} {A : Around} {t t1 t2 : Bool} {h h' : Heap} {i a b : Addr} {k : Nat}
theorem hit_at (x : HIt t h i a k) (q : ∀ o, h.get? i = some o → h'.get? i = some o) : HIt t h' i a k := by
  cases t with
  | true => exact Heap.IsTupleIter.at x q
  | false => exact Heap.IsListIter.at x q
theorem hit_obj (x : HIt t h i a k) : ∃ o, h.get? i = some o ∧ ∃ vs, o.data = .fields vs := by
  cases t with
  | true => obtain ⟨o, e, _, d⟩ := x; exact ⟨o, e, _, d⟩
  | false => obtain ⟨o, e, _, d⟩ := x; exact ⟨o, e, _, d⟩
theorem hit_new (e : h.get? i = some (itObj t a)) : HIt t h i a 0 := by
  cases t with
  | true => exact ⟨_, e, rfl, rfl⟩
  | false => exact ⟨_, e, rfl, rfl⟩
theorem drawsB (hh : A.handled = none) (i a : Addr) (hne : a ≠ i) (items : Array Value) :
    Draws prog w A i [i, a] items.size (fun j v => items[j]? = some v) (fun j h => HIt t h i a j ∧ HSeq t h a items) := by
  cases t with
  | true => exact Draws.tuple hh i a hne items
  | false => exact Draws.list hh i a hne items
theorem beginsB (a : Addr) (items : Array Value) : Begins (.ref a) (itObj t a) fun h => HSeq t h a items := by
  cases t with
  | true => exact begins_tuple a items
  | false => exact begins_list a items
theorem hseq_lt {items : Array Value} (x : HSeq t h a items) : a < h.objs.size := by
  cases t with
  | true => obtain ⟨o, e, _⟩ := x; exact Heap.lt_size e
  | false => obtain ⟨o, e, _⟩ := x; exact Heap.lt_size e
end
section
variable {X : Cx} {pins : List (Addr × Obj)} {σ : L2.St} {H : Hp} {s : Shared} {t : Bool} {a : Addr} {xs ys : List V}
theorem inv_seq (I : Inv X pins σ H s) (q : SqB X.K t H a xs) : ∃ its : List Value, Vals xs its ∧ HSeq t s.heap a its.toArray := by
  cases t with
  | true =>
    obtain ⟨its, rv, p, _⟩ := I.tuple q
    exact ⟨its, rv, p⟩
  | false =>
    obtain ⟨its, rv, p, _⟩ := I.list q
    exact ⟨its, rv, p.isList⟩
theorem inv_inj (I : Inv X pins σ H s) (q : SqB X.K t H a xs) (r : SqB X.K t H a ys) : xs = ys := by
  cases t with
  | true => exact I.tuple_inj q r
  | false => exact I.list_inj q r
end
/-- what stands at a and b, the items in new pairs -/
def ItzB (K : PySem.W.Frag) (t1 t2 : Bool) (a b : Addr) : It :=
  ⟨fun i H => ∃ (xs ys : List V) (x y : V), SqB K t1 H a xs ∧ SqB K t2 H b ys ∧ xs[i]? = some x ∧ ys[i]? = some y,
    fun i H v H' => ∃ T x y, v = .ref T ∧ H T = none ∧ H' = upd H T (.tup [x, y]) ∧ (∀ xs, SqB K t1 H a xs → xs[i]? = some x) ∧ ∀ ys, SqB K t2 H b ys → ys[i]? = some y,
    fun i H => ∃ xs ys : List V, SqB K t1 H a xs ∧ SqB K t2 H b ys ∧ i ≤ xs.length ∧ i ≤ ys.length ∧ (i = xs.length ∨ i = ys.length)⟩
theorem zip_sep {z TI TO i1 i2 a b : Addr} (D : ZipApart z TI TO i1 i2 a b) : ZipSep2 z TI TO i1 i2 [i1, a] [i2, b] where
  TIz := D.TIz
  TOz := D.TOz
  TITO := D.TITO
  TIi1 := D.TIi1
  mem1 := by simp
  zf1 := by simpa using ⟨D.i1z.symm, D.l1z.symm⟩
  Tf1 := by simpa using ⟨D.TOi1, D.l1TO.symm⟩
  TIi2 := D.TIi2
  mem2 := by simp
  zf2 := by simpa using ⟨D.i2z.symm, D.l2z.symm⟩
  Tf2 := by simpa using ⟨D.TOi2, D.l2TO.symm⟩
  sep1_2 := by simpa using ⟨D.i12, D.l2i1.symm⟩
  sep2_1 := by simpa using ⟨D.i12.symm, D.l1i2.symm⟩
theorem turn_zipB {P : Program} {w : World} {K : PySem.W.Frag} {elts : List Expr} {kk : Nat} {tpos : Pos} {t1 t2 : Bool} {a b z TI TO i1 i2 : Addr} (D : ZipApart z TI TO i1 i2 a b) :
    Turn P w K (.Tuple elts kk tpos) (ItzB K t1 t2 a b) [z, TI, TO, i1, i2] z (fun i h => IsZip h z TI TO .none ∧ IsTupOf2 h TI (.ref i1) (.ref i2) ∧ (∃ x y, IsTupOf2 h TO x y) ∧ HIt t1 h i1 a i ∧ HIt t2 h i2 b i) where
  mem := by simp
  obj := fun i h st c hc => by
    obtain ⟨hz, hTI, ⟨x, y, hTO⟩, s1, s2⟩ := st
    obtain ⟨o1, e1, _, d1⟩ := hit_obj s1
    obtain ⟨o2, e2, _, d2⟩ := hit_obj s2
    have e' : c = z ∨ c = TI ∨ c = TO ∨ c = i1 ∨ c = i2 := by simpa using hc
    rcases e' with q | q | q | q | q
    · rw [q]; exact ⟨_, hz, fun v q => nomatch q⟩
    · rw [q]; exact ⟨_, hTI, fun v q => nomatch q⟩
    · rw [q]; exact ⟨_, hTO, fun v q => nomatch q⟩
    · rw [q]; exact ⟨o1, e1, fun v q => by rw [d1] at q; cases q⟩
    · rw [q]; exact ⟨o2, e2, fun v q => by rw [d2] at q; cases q⟩
  keep := fun i h h' st k => by
    obtain ⟨hz, hTI, ⟨x, y, hTO⟩, h1, h2⟩ := st
    exact ⟨k z (by simp) _ hz, k TI (by simp) _ hTI, ⟨x, y, k TO (by simp) _ hTO⟩, hit_at h1 fun o q => k i1 (by simp) o q, hit_at h2 fun o q => k i2 (by simp) o q⟩
  item := by
    intro X hP hw hK hc i pins s σ H E I hf st hg
    subst hP hw hK
    obtain ⟨hz, hTI, ⟨x0, y0, hTO⟩, h1, h2⟩ := st
    obtain ⟨xs, ys, x, y, hqx, hqy, hx, hy⟩ := hg
    obtain ⟨its, rv, p⟩ := inv_seq I hqx
    obtain ⟨its2, rv2, p2⟩ := inv_seq I hqy
    obtain ⟨u, hu, ru⟩ := rv.get hx
    obtain ⟨u2, hu2, ru2⟩ := rv2.get hy
    have hzl : z < s.heap.objs.size := Heap.lt_size hz
    have hd : X.A.in1.handled = none := I.ok.hd hc
    have l1 : i < its.toArray.size := by
      obtain ⟨y, _⟩ := List.getElem?_eq_some_iff.mp hu
      simpa using y
    have l2 : i < its2.toArray.size := by
      obtain ⟨y, _⟩ := List.getElem?_eq_some_iff.mp hu2
      simpa using y
    refine wpAny_pyNext_zipD2_item (zip_sep D) (drawsB hd i1 a D.l1i1 its.toArray) (drawsB hd i2 b D.l2i2 its2.toArray) hz hTI hTO ⟨h1, p⟩ ⟨h2, p2⟩ l1 l2 fun w1 w2 h' tk e1 e2 z' TO' ⟨h1', _⟩ ⟨h2', _⟩ hT hsz hk => ?_
    have eu : w1 = u := by
      have : its.toArray[i]? = some u := by simpa using hu
      rw [this] at e1
      exact (Option.some.inj e1).symm
    have eu2 : w2 = u2 := by
      have : its2.toArray[i]? = some u2 := by simpa using hu2
      rw [this] at e2
      exact (Option.some.inj e2).symm
    subst eu eu2
    refine ⟨_, rfl, wpAny_letOwnedTupleGo_zip (s := { s with heap := h', toks := tk }) z' fun h'' z'' sb => ?_⟩
    have hT2 : h''.get? s.heap.objs.size = some { cls := .type "tuple", data := .seq #[w1, w2] } := (sb.2 _ (Nat.ne_of_gt hzl)).trans hT
    have new : ObjOk X.prog X.w (upd H s.heap.objs.size (.tup [x, y])) h'' s.heap.objs.size (.tup [x, y]) :=
      ⟨by show 2 ≤ sizeLine; decide, [w1, w2], .cons ru (.cons ru2 .nil), ⟨_, hT2, rfl, _, rfl⟩⟩
    have I1 : Inv X pins σ (upd H s.heap.objs.size (.tup [x, y])) { s with heap := h'', toks := tk } :=
      I.turnedNew (t' := tk) (ch := [z, TI, TO, i1, i2]) (fun c o hb q => (sb.2 c (fun q' => hb (by simp [q']))).trans (hk c o (fun q' => hb (by simp [q'])) (fun q' => hb (by simp [q'])) (fun q' => hb (by simp [q'])) (fun q' => hb (by simp [q'])) q)) hf (Nat.le_refl _) new
    refine ⟨.ref s.heap.objs.size, _, I1, rfl, ⟨_, x, y, rfl, I.hok.fresh (Nat.le_refl _), rfl, fun l hl => by rw [inv_inj I hl hqx]; exact hx, fun l hl => by rw [inv_inj I hl hqy]; exact hy⟩, ⟨z'', ?_, ⟨w1, w2, ?_⟩, ?_, ?_⟩, fun c hcm => ?_⟩
    · exact (sb.2 _ D.TIz).trans (hk _ _ D.TIz D.TITO D.TIi1 D.TIi2 hTI)
    · exact (sb.2 _ D.TOz).trans TO'
    · exact hit_at h1' fun o q => (sb.2 _ D.i1z).trans q
    · exact hit_at h2' fun o q => (sb.2 _ D.i2z).trans q
    · have hlt : c < s.heap.objs.size := by
        have e' : c = z ∨ c = TI ∨ c = TO ∨ c = i1 ∨ c = i2 := by simpa using hcm
        rcases e' with q | q | q | q | q
        · rw [q]; exact hzl
        · rw [q]; exact Heap.lt_size hTI
        · rw [q]; exact Heap.lt_size hTO
        · rw [q]; obtain ⟨_, e1, _⟩ := hit_obj h1; exact Heap.lt_size e1
        · rw [q]; obtain ⟨_, e2, _⟩ := hit_obj h2; exact Heap.lt_size e2
      rw [upd_ne (Nat.ne_of_lt hlt)]
      exact (hf c hcm).1
  done := by
    intro X hP hw hK hc i pins s σ H E I hf st hg
    subst hP hw hK
    obtain ⟨hz, hTI, ⟨x0, y0, hTO⟩, h1, h2⟩ := st
    obtain ⟨xs, ys, hqx, hqy, hl1, hl2, hend⟩ := hg
    obtain ⟨its, rv, p⟩ := inv_seq I hqx
    obtain ⟨its2, rv2, p2⟩ := inv_seq I hqy
    have l1 := rv.length
    have l2 := rv2.length
    have hd : X.A.in1.handled = none := I.ok.hd hc
    refine wpAny_pyNext_zipD2_end (zip_sep D) (drawsB hd i1 a D.l1i1 its.toArray) (drawsB hd i2 b D.l2i2 its2.toArray) hz hTI hTO ⟨h1, p⟩ ⟨h2, p2⟩ (by simp; omega) (by simp; omega) (by simp; omega) fun h' tk hk => ⟨rfl, I.turnedL (t' := tk) (ch := [z, TI, TO, i1, i2]) (fun c o hb q =>
      hk c o (fun q' => hb (by simp [q'])) (fun q' => hb (by simp [q'])) (fun q' => hb (by simp [q'])) (fun q' => hb (by simp [q'])) q) hf⟩
  self := fun A i s Q E st h => wpAny_pyIter_zip st.1 h
def iZipB (K : PySem.W.Frag) (ta : TA) : TI := fun σ H R => ta σ H fun vs H1 => ∃ t1 t2 a b xs ys, vs = [.ref a, .ref b] ∧ SqB K t1 H1 a xs ∧ SqB K t2 H1 b ys ∧ R (ItzB K t1 t2 a b) H1
theorem pi_zipB {X : Cx} {e e2 : Expr} {ta : TA} {p pos tpos : Pos} {elts : List Expr} {kk : Nat} (hg : Gl X "zip") (hm : X.mg "zip" = none) (ha : PA X [e, e2] ta)
    (hs : starEach [e, e2] X.env = (false, eval e X.env) :: starEach [e2] X.env := by rfl) (hpl : (backTo pos (starEach [e2] X.env)).any (·.1) = false := by rfl) :
    PI X (.Tuple elts kk tpos) (.Call (.Name "zip" p) [e, e2] [] pos) (iZipB X.K ta) := by
  refine ⟨fun pins s σ H R I h => ?_⟩
  refine Call_ (ld_blt I hg hm PyProof.Rows.boot_zip (PyProof.Rows.callWith_type1 (thn (ha.run pos pins s σ H _ I h) fun us s1 ⟨vs, H1, I1, r1, q1⟩ => ?_) hs hpl))
  obtain ⟨t1, t2, a, b, xs, ys, ex, hqx, hqy, q⟩ := q1
  subst ex
  cases r1 with
  | cons r rr =>
    cases rr with
    | cons r' rr =>
      cases rr
      cases r
      cases r'
      have fresh5 : ∀ c, c ∈ [s1.heap.objs.size + 4, s1.heap.objs.size + 2, s1.heap.objs.size + 3, s1.heap.objs.size, s1.heap.objs.size + 1] → FpOk X pins H1 c := fun c hcm => by
        have e' : c = s1.heap.objs.size + 4 ∨ c = s1.heap.objs.size + 2 ∨ c = s1.heap.objs.size + 3 ∨ c = s1.heap.objs.size ∨ c = s1.heap.objs.size + 1 := by simpa using hcm
        have hle : s1.heap.objs.size ≤ c := by
          rcases e' with z | z | z | z | z
          · rw [z]; exact Nat.le_add_right _ _
          · rw [z]; exact Nat.le_add_right _ _
          · rw [z]; exact Nat.le_add_right _ _
          · rw [z]; exact Nat.le_refl _
          · rw [z]; exact Nat.le_add_right _ _
        exact I1.fpOk hle (I1.hok.fresh hle)
      obtain ⟨its, rv, p1⟩ := inv_seq I1 hqx
      obtain ⟨its2, rv2, p2⟩ := inv_seq I1 hqy
      refine zip_begins2 (beginsB (t := t1) a its.toArray) (beginsB (t := t2) b its2.toArray) p1 p2 fun h' hz hTI hTO h1 h2 hsz hk => wpAny_pyIter_zip hz ?_
      have I2 : Inv X pins σ H1 { s1 with heap := h' } := I1.kept (t' := s1.toks) hk
      exact ⟨s1.heap.objs.size + 4, [s1.heap.objs.size + 4, s1.heap.objs.size + 2, s1.heap.objs.size + 3, s1.heap.objs.size, s1.heap.objs.size + 1], _, _, H1, rfl, I2, turn_zipB (PySem.W.ktu_apart s1.heap.objs.size a b (hseq_lt p1) (hseq_lt p2)), ⟨hz, hTI, ⟨_, _, hTO⟩, hit_new h1, hit_new h2⟩, fresh5, q⟩
section
variable {K : PySem.W.Frag} {b : Bs} {ρ : List Sl} {Hf H Hf' H' : Hp} {σ : L2.St} {R : List D → Prop} {tr : TA}
theorem rp_seq {v : V} {x : D} {l : List D} (r : Rp K Hf v x) (e : seqD x = some l) : ∃ t a vs, v = .ref a ∧ RpA K Hf vs l ∧ (∀ H2, Ex Hf H2 → SqB K t H2 a vs) := by
  cases r with
  | tup h1 a1 =>
    cases e
    exact ⟨true, _, _, rfl, a1, fun H2 x => x.st h1⟩
  | lst h1 a1 =>
    cases e
    exact ⟨false, _, _, rfl, a1, fun H2 x => SqL.of (x _ _ h1)⟩
  | non => cases e
  | bl _ => cases e
  | int _ => cases e
  | str _ => cases e
  | ty _ => cases e
  | fn _ => cases e
  | dic _ _ _ => cases e
  | obj _ _ _ => cases e
  | exc _ _ _ => cases e
  | exc0 _ _ => cases e
theorem di_zipB (h : DA K b ρ tr fun l => ∃ x y lx ly, l = [x, y] ∧ seqD x = some lx ∧ seqD y = some ly ∧ R (zipD lx ly)) : DI K b ρ (iZipB K tr) R := fun Hf H σ k fr c => by
  refine h Hf H σ _ fr fun vs ds Hf1 H1 e1 f1 r1 ⟨x, y, lx, ly, e, ex, ey, q⟩ => ?_
  subst e
  cases r1 with
  | cons r1 rr =>
    cases rr with
    | cons r2 rr =>
      cases rr
      obtain ⟨t1, a1, xs, rfl, ax, sx⟩ := rp_seq r1 ex
      obtain ⟨t2, a2, ys, rfl, ay, sy⟩ := rp_seq r2 ey
      refine ⟨t1, t2, a1, a2, xs, ys, rfl, sx _ f1.ex.exF, sy _ f1.ex.exF, c _ _ Hf1 H1 e1 f1 (fun Hf2 H2 x1 x2 i => ⟨fun hi => ?_, fun hi => ?_⟩) q⟩
      · rw [zipD_len] at hi
        have i1 : i < lx.length := by omega
        have i2 : i < ly.length := by omega
        have g1 := sx _ (x1.trans x2)
        have g2 := sy _ (x1.trans x2)
        obtain ⟨v1, w1, s1⟩ := ax.at (List.getElem?_eq_getElem i1)
        obtain ⟨v2, w2, s2⟩ := ay.at (List.getElem?_eq_getElem i2)
        refine ⟨⟨_, _, v1, v2, g1, g2, w1, w2⟩, fun v H3 z => ?_⟩
        obtain ⟨T, x', y', rfl, hT, rfl, z1, z2⟩ := z
        have y1 := z1 _ g1
        have y2 := z2 _ g2
        rw [w1] at y1
        rw [w2] at y2
        cases y1
        cases y2
        obtain ⟨Hf3, p1, p2, p3⟩ := lay_pair (b := b) x2 hT (s1.up x1) (s2.up x1)
        exact ⟨Hf3, _, zipD_at (List.getElem?_eq_getElem i1) (List.getElem?_eq_getElem i2), p1, p2, p3⟩
      · rw [zipD_len] at hi
        refine ⟨_, _, sx _ (x1.trans x2), sy _ (x1.trans x2), ?_, ?_, ?_⟩
        · rw [ax.len]; omega
        · rw [ay.len]; omega
        · rw [ax.len, ay.len]; omega
end
end G

set_option Elab.async false
set_option linter.all false
set_option maxRecDepth 100000
set_option maxHeartbeats 4000000
/-! DSeq: slices of tuples and lists; all, any of a list of truths; a list asked whether it is empty. -/
namespace G
open PySem PySem.Spec PyProof.Rows L2
section
variable {K : PySem.W.Frag} {b : Bs} {ρ : List Sl} {ta tb te tc : TE} {tr : TA} {Q : D → Prop} {Hf H : Hp}
/-! ### == [] -/
theorem okD_nil : okD (.lst []) = true := (Od.dec (n := 1) (by decide +kernel) (by decide +kernel) (by decide +kernel) (by decide +kernel)).ok (by decide)
theorem de_eqNil (h : DE K b ρ ta fun x => DE K b ρ tb fun y => ∃ l, x = .lst l ∧ y = .lst [] ∧ Q (.bl l.isEmpty)) : DE K b ρ (tOp (rEqG K) ta tb) Q :=
  de_op (h.imp fun x hx => hx.imp fun y ⟨l, e1, e2, q⟩ Hf H σ k v u f rv ru c => by
    subst e1; subst e2
    cases l with
    | nil =>
      obtain ⟨a1, a2, a3⟩ := okD_un okD_nil
      have e : PyData.eqv (D.lst []).py (D.lst []).py = true := (Od.dec (n := 1) (d := .lst []) (by decide +kernel) (by decide +kernel) (by decide +kernel) (by decide +kernel)).refl
      refine Or.inr (Or.inl ⟨(D.lst []).py, (D.lst []).py, (rv.up f.ex.exF).dp a1 a2, (ru.up f.ex.exF).dp a1 a2, a3, a3, ?_⟩)
      rw [e]
      exact c _ _ Hf H Up.refl f (.bl _) q
    | cons d l =>
      cases rv with
      | lst h1 a1 =>
        cases ru with
        | lst h2 a2 => exact Or.inr (Or.inr ⟨_, _, _, _, rfl, rfl, SqL.of (f.ex.exF _ _ h1), SqL.of (f.ex.exF _ _ h2), by rw [a1.len, a2.len]; simp, c _ _ Hf H Up.refl f (.bl _) q⟩))
/-- {} -/
theorem de_dnew (q : Q (.dic [])) : DE K b ρ tDNewK Q := fun Hf H σ k fr c p hp => by
  have n := fr.ex.exF.no hp
  exact c _ _ _ _ (Up.new hp n) (fr.put hp) (Rp.dic upd_same rfl .nil) q
/-! ### all, any -/
theorem bls_of : ∀ {bs : List Bool} {xs : List V}, RpA K Hf xs (bs.map D.bl) → xs = bs.map V.bl
  | [], _, r => by cases r; rfl
  | c :: bs, _, r => by
    cases r with
    | cons r1 r2 =>
      cases r1
      rw [bls_of r2] <;> rfl
theorem de_all (h : DE K b ρ ta fun x => ∃ bs : List Bool, x = .lst (bs.map D.bl) ∧ Q (.bl (bs.all id))) : DE K b ρ (tCB (rAll K) (tCons ta tNil)) Q :=
  de_cb1 (h.imp fun x ⟨bs, e, q⟩ Hf H σ k v f rv c => by
    subst e
    cases rv with
    | lst h1 a1 =>
      have e := bls_of a1
      subst e
      exact ⟨_, bs, rfl, SqL.of (f.ex.exF _ _ h1), c _ _ Hf H Up.refl f (.bl _) q⟩)
theorem de_any (h : DE K b ρ ta fun x => ∃ bs : List Bool, x = .lst (bs.map D.bl) ∧ Q (.bl (bs.any id))) : DE K b ρ (tCB (rAny K) (tCons ta tNil)) Q :=
  de_cb1 (h.imp fun x ⟨bs, e, q⟩ Hf H σ k v f rv c => by
    subst e
    cases rv with
    | lst h1 a1 =>
      have e := bls_of a1
      subst e
      exact ⟨_, bs, rfl, SqL.of (f.ex.exF _ _ h1), c _ _ Hf H Up.refl f (.bl _) q⟩)
/-! ### slices -/
def rSlG (K : PySem.W.Frag) : V → Option Int → Option Int → Hp → VK → Prop := fun x lo hi H Q => rSlA K x lo hi H Q ∨ rSlL K x lo hi H Q
theorem sl_seq {X : Cx} : SlR X (rSlG X.K) := sl_tupA.or sl_list
def DO (K : PySem.W.Frag) (b : Bs) (ρ : List Sl) (t : TO) (Q : Option Int → Prop) : Prop := ∀ (Hf H : Hp) (σ : L2.St) (k : Option Int → Hp → Prop), Fm K b Hf H σ ρ →
  (∀ o Hf' H', Up b Hf H Hf' H' → Fm K b Hf' H' σ ρ → Q o → k o H') → t σ H k
theorem do_none {Q : Option Int → Prop} (q : Q none) : DO K b ρ tNoPart Q := fun Hf H σ k fr c => c _ Hf H Up.refl fr q
theorem do_some {Q : Option Int → Prop} (h : DE K b ρ te fun x => ∃ i, x = .int i ∧ Q (some i)) : DO K b ρ (tPart te) Q := fun Hf H σ k fr c => by
  refine h Hf H σ _ fr fun v x Hf1 H1 e1 f1 r1 ⟨i, e, q⟩ => ?_
  subst e
  have e := r1.int_inv
  subst e
  exact ⟨i, rfl, c _ Hf1 H1 e1 f1 q⟩
/-- the items of l[lo:hi] -/
def cutD (l : List D) (lo hi : Option Int) : List D := (l.drop (HT.sIx l.length 0 lo)).take (HT.sIx l.length l.length hi - HT.sIx l.length 0 lo)
theorem RpA.drop : ∀ {vs : List V} {ds : List D} (n : Nat), RpA K Hf vs ds → RpA K Hf (vs.drop n) (ds.drop n)
  | _, _, 0, r => by simpa using r
  | _, _, n + 1, .nil => by simpa using RpA.nil
  | _, _, n + 1, .cons _ r => by simpa using r.drop n
theorem RpA.take : ∀ {vs : List V} {ds : List D} (n : Nat), RpA K Hf vs ds → RpA K Hf (vs.take n) (ds.take n)
  | _, _, 0, _ => by simpa using RpA.nil
  | _, _, n + 1, .nil => by simpa using RpA.nil
  | _, _, n + 1, .cons q r => by simpa using RpA.cons q (r.take n)
theorem RpA.cut {vs : List V} {ds : List D} (lo hi : Option Int) (r : RpA K Hf vs ds) : RpA K Hf (cutV vs lo hi) (cutD ds lo hi) := by
  unfold cutV cutD
  rw [r.len]
  exact (r.drop _).take _
theorem cutD_all {l : List D} {lo hi : Option Int} (h : HT.sIx l.length 0 lo = 0 ∧ HT.sIx l.length l.length hi = l.length) : cutD l lo hi = l := by
  unfold cutD
  rw [h.1, h.2]
  simp
theorem de_sliceT {tl th : TO} (h : DE K b ρ te fun x => DO K b ρ tl fun lo => DO K b ρ th fun hi => ∃ l, x = .tup l ∧ Q (.tup (cutD l lo hi))) : DE K b ρ (tSl (rSlG K) te tl th) Q := fun Hf H σ k fr c => by
  refine h Hf H σ _ fr fun v x Hf1 H1 e1 f1 r1 q1 => ?_
  refine q1 Hf1 H1 σ _ f1 fun lo Hf2 H2 e2 f2 q2 => ?_
  refine q2 Hf2 H2 σ _ f2 fun hi Hf3 H3 e3 f3 ⟨l, e, q⟩ => ?_
  subst e
  cases r1 with
  | tup h1 a1 =>
    have h3 := e3.1.st (e2.1.st h1)
    have a3 := (a1.up e2.1).up e3.1
    refine Or.inl ⟨_, _, rfl, f3.ex.exF.st h3, fun z => ?_, fun z p hp => ?_⟩
    · rw [a3.len] at z
      rw [cutD_all z] at q
      exact c _ _ Hf3 H3 ((e1.trans e2).trans e3) f3 (.tup h3 a3) q
    · have n := f3.ex.exF.no hp
      exact c _ _ _ _ (((e1.trans e2).trans e3).trans (Up.new hp n)) (f3.put hp) (Rp.tup (SqT.of upd_same) (RpA.up (Ex.new n) (a3.cut lo hi))) q
theorem dn_slice {tl th : TO} {R : List D → Prop} (h : DE K b ρ te fun x => DO K b ρ tl fun lo => DO K b ρ th fun hi => ∃ l, x = .lst l ∧ R (cutD l lo hi)) : DN K b ρ (tSl (rSlG K) te tl th) R := fun Hf H σ k fr c => by
  refine h Hf H σ _ fr fun v x Hf1 H1 e1 f1 r1 q1 => ?_
  refine q1 Hf1 H1 σ _ f1 fun lo Hf2 H2 e2 f2 q2 => ?_
  refine q2 Hf2 H2 σ _ f2 fun hi Hf3 H3 e3 f3 ⟨l, e, q⟩ => ?_
  subst e
  cases r1 with
  | lst h1 a1 =>
    have a3 := (a1.up e2.1).up e3.1
    exact Or.inr ⟨_, _, rfl, SqL.of (f3.ex.exF _ _ (e3.1 _ _ (e2.1 _ _ h1))), fun p hp => c p _ _ Hf3 H3 ((e1.trans e2).trans e3) f3 hp (a3.cut lo hi) q⟩
end
end G

set_option Elab.async false
set_option linter.all false
set_option maxRecDepth 100000
set_option maxHeartbeats 4000000
/-! DText: a repr is a text that == may be asked of; data that repr may be asked of, their ints of at most 70 digits; is not True. -/
namespace G
open PySem PySem.Spec PyProof.Rows L2
def Oc (s : Str) : Prop := ∀ c ∈ s.cps.toList, c < 0x110000
theorem Oc.app {a b : Str} (x : Oc a) (y : Oc b) : Oc (a ++ b) := fun c h => (mem_cps_append.mp h).elim (x c) (y c)
theorem oc_dec {s : Str} (h : (s.cps.toList.all fun c => decide (c < 0x110000)) = true) : Oc s := fun c hc => of_decide_eq_true (List.all_eq_true.mp h c hc)
theorem oc_int (i : Int) : Oc (PyData.int i).shown := fun c hc => by
  by_cases h : c < 0x110000
  · exact h
  · exact (shown_int_free' (k := c) ⟨by omega, Or.inr (by omega)⟩ i hc).elim
theorem oc_text : ∀ (ts : List Str) (k : Nat) (acc : Str), Oc acc → (∀ t ∈ ts, Oc t) → Oc (textFrom k acc ts)
  | [], _, _, h, _ => h
  | t :: r, k, acc, h, ht => oc_text r (k + 1) _ ((h.app (by split <;> exact oc_dec (by decide +kernel))).app (ht t List.mem_cons_self)) fun u hu => ht u (List.mem_cons_of_mem _ hu)
theorem oc_list {ts : List Str} (h : ∀ t ∈ ts, Oc t) : Oc (listText ts) := (oc_text ts 0 _ (oc_dec (by decide +kernel)) h).app (oc_dec (by decide +kernel))
theorem oc_join {sep : Str} (hs : Oc sep) : ∀ ts : List Str, (∀ t ∈ ts, Oc t) → Oc (Str.join sep ts)
  | [], _ => fun c h => by
    have h' : c ∈ ([] : List Nat) := h
    cases h'
  | [x], h => h x (List.mem_singleton.mpr rfl)
  | x :: y :: r, h => ((h x List.mem_cons_self).app hs).app (oc_join hs (y :: r) fun t ht => h t (List.mem_cons_of_mem _ ht))
theorem oc_tuple {ts : List Str} (h : ∀ t ∈ ts, Oc t) : Oc (tupleText ts) := by
  unfold tupleText
  refine ((oc_dec (by decide +kernel)).app (oc_join (oc_dec (by decide +kernel)) ts h)).app ?_
  split <;> exact oc_dec (by decide +kernel)
theorem oc_dict {ts : List Str} (h : ∀ t ∈ ts, Oc t) : Oc (dictText ts) := ((oc_dec (by decide +kernel)).app (oc_join (oc_dec (by decide +kernel)) ts h)).app (oc_dec (by decide +kernel))
def sOc (s : Str) : Bool := s.cps.toList.all fun c => decide (c < 0x110000)
mutual
/-- its texts' reprs are texts -/
def leafOc : PyData → Bool
  | .str x => sOc (PyData.shown (.str x))
  | .list xs => leafOcA xs
  | .tuple xs => leafOcA xs
  | .dict kvs => leafOcK kvs
  | _ => true
def leafOcA : List PyData → Bool
  | [] => true
  | d :: r => leafOc d && leafOcA r
def leafOcK : List (PyData × PyData) → Bool
  | [] => true
  | (k, v) :: r => leafOc k && leafOc v && leafOcK r
end
mutual
theorem oc_shown : ∀ d : PyData, leafOc d = true → Oc d.shown
  | .none, _ => oc_dec (by decide +kernel)
  | .bool b, _ => by cases b <;> exact oc_dec (by decide +kernel)
  | .int i, _ => oc_int i
  | .str x, h => oc_dec (by simpa only [leafOc, sOc] using h)
  | .list xs, h => by
    simp only [PyData.shown]
    exact oc_list (oc_shownAll xs (by simpa only [leafOc] using h))
  | .tuple xs, h => by
    simp only [PyData.shown]
    exact oc_tuple (oc_shownAll xs (by simpa only [leafOc] using h))
  | .dict xs, h => by
    simp only [PyData.shown]
    exact oc_dict (oc_shownKv xs (by simpa only [leafOc] using h))
theorem oc_shownAll : ∀ ds : List PyData, leafOcA ds = true → ∀ t ∈ PyData.shownAll ds, Oc t
  | [], _, t, ht => by simp [PyData.shownAll] at ht
  | d :: r, h, t, ht => by
    simp only [leafOcA, Bool.and_eq_true] at h
    simp only [PyData.shownAll] at ht
    rcases List.mem_cons.mp ht with rfl | ht
    · exact oc_shown d h.1
    · exact oc_shownAll r h.2 t ht
theorem oc_shownKv : ∀ ds : List (PyData × PyData), leafOcK ds = true → ∀ t ∈ PyData.shownKv ds, Oc t
  | [], _, t, ht => by simp [PyData.shownKv] at ht
  | (k, v) :: r, h, t, ht => by
    simp only [leafOcK, Bool.and_eq_true] at h
    simp only [PyData.shownKv] at ht
    rcases List.mem_cons.mp ht with rfl | ht
    · exact ((oc_shown k h.1.1).app (oc_dec (by decide +kernel))).app (oc_shown v h.1.2)
    · exact oc_shownKv r h.2 t ht
end
/-- data of depth at most n, of bulk at most w, its ints of at most 70 digits: repr may be asked -/
structure Tm (n w : Nat) (d : D) : Prop where
  pl : d.pl = true
  sh : d.py.showable = true
  dp : d.py.depth ≤ n
  lv : d.py.leavesShort 70 = true
  bk : d.py.bulk ≤ w
  oc : leafOc d.py = true
structure TmL (n w : Nat) (d : List D) : Prop where
  pl : D.plL d = true
  sh : PyData.showableAll (D.pyL d) = true
  dp : PyData.depthAll (D.pyL d) ≤ n
  lv : PyData.leavesShortAll 70 (D.pyL d) = true
  bk : PyData.bulkAll (D.pyL d) ≤ w
  oc : leafOcA (D.pyL d) = true
section
variable {n m w v : Nat} {d : D} {l : List D}
theorem Tm.mono (h : Tm n w d) (a : n ≤ m) (b : w ≤ v) : Tm m v d := { pl := h.pl, sh := h.sh, dp := Nat.le_trans h.dp a, lv := h.lv, bk := Nat.le_trans h.bk b, oc := h.oc }
theorem Tm.ok (h : Tm n w d) (a : n ≤ 60) (b : w ≤ 1300) : okR d := ⟨h.pl, h.sh, Nat.le_trans h.dp a, by
  have q := PyData.shown_le_bulk 70 (by decide) d.py h.lv
  have := h.bk
  omega⟩
theorem Tm.so (h : Tm n w d) : PyData.strOk d.py.shown = true := by
  have q := oc_shown d.py h.oc
  unfold PyData.strOk
  rw [← Array.all_toList]
  exact List.all_eq_true.mpr fun c hc => decide_eq_true (q c hc)
theorem Tm.dec (h1 : d.pl = true) (h2 : d.py.showable = true) (h3 : d.py.depth ≤ n) (h4 : d.py.leavesShort 70 = true) (h5 : d.py.bulk ≤ w) (h6 : leafOc d.py = true) : Tm n w d := ⟨h1, h2, h3, h4, h5, h6⟩
theorem Tm.int {i : Int} (h : i.natAbs < 2 ^ 200) : Tm n w (.int i) := by
  have hl : (PyData.int i).shown.length ≤ 70 := by
    rw [PyData.shown_int]
    have e := int_text_length_le10 (a := i) (k := 61) (by decide) (Nat.lt_trans h (by decide))
    rw [PySem.ofString_length]
    omega
  refine { pl := by simp [D.pl], sh := ?_, dp := by simp [D.py, PyData.depth], lv := ?_, bk := by simp [D.py, PyData.bulk], oc := by simp [D.py, leafOc] }
  · simp only [D.py, PyData.showable, decide_eq_true_eq]
    by_cases z : i.natAbs = 0
    · rw [z]; decide
    · exact Nat.lt_of_lt_of_le ((Nat.log2_lt z).mpr h) (by decide)
  · simp only [D.py, PyData.leavesShort, decide_eq_true_eq]
    exact hl
theorem TmL.nil : TmL n w [] := { pl := by simp [D.plL], sh := by simp [D.pyL, PyData.showableAll], dp := by simp [D.pyL, PyData.depthAll], lv := by simp [D.pyL, PyData.leavesShortAll], bk := by simp [D.pyL, PyData.bulkAll], oc := by simp [D.pyL, leafOcA] }
theorem TmL.cons (h : Tm n w d) (r : TmL n v l) : TmL n (w + 1 + v) (d :: l) :=
  { pl := by simp only [D.plL, h.pl, r.pl] <;> rfl, sh := by simp only [D.pyL, PyData.showableAll, h.sh, r.sh] <;> rfl
    dp := by simp only [D.pyL, PyData.depthAll]; exact Nat.max_le.mpr ⟨h.dp, r.dp⟩, lv := by simp only [D.pyL, PyData.leavesShortAll, h.lv, r.lv] <;> rfl
    bk := by simp only [D.pyL, PyData.bulkAll]; have a := h.bk; have b := r.bk; omega
    oc := by simp only [D.pyL, leafOcA, h.oc, r.oc] <;> rfl }
theorem TmL.tup (h : TmL n w l) : Tm (n + 1) w (.tup l) :=
  { pl := by simpa only [D.pl] using h.pl, sh := by simpa only [D.py, PyData.showable] using h.sh, dp := by simp only [D.py, PyData.depth]; exact Nat.succ_le_succ h.dp, lv := by simpa only [D.py, PyData.leavesShort] using h.lv, bk := by simpa only [D.py, PyData.bulk] using h.bk, oc := by simpa only [D.py, leafOc] using h.oc }
theorem TmL.lst (h : TmL n w l) : Tm (n + 1) w (.lst l) :=
  { pl := by simpa only [D.pl] using h.pl, sh := by simpa only [D.py, PyData.showable] using h.sh, dp := by simp only [D.py, PyData.depth]; exact Nat.succ_le_succ h.dp, lv := by simpa only [D.py, PyData.leavesShort] using h.lv, bk := by simpa only [D.py, PyData.bulk] using h.bk, oc := by simpa only [D.py, leafOc] using h.oc }
theorem TmL.mono (h : TmL n w l) (b : w ≤ v) : TmL n v l := { pl := h.pl, sh := h.sh, dp := h.dp, lv := h.lv, bk := Nat.le_trans h.bk b, oc := h.oc }
/-- each of l is so -/
theorem TmL.all : ∀ {l : List D}, (∀ d ∈ l, Tm n w d) → TmL n ((w + 1) * l.length) l
  | [], _ => TmL.nil
  | d :: l, h => (TmL.cons (h d List.mem_cons_self) (TmL.all fun x hx => h x (List.mem_cons_of_mem _ hx))).mono (by
      rw [List.length_cons, Nat.mul_succ]; omega)
end
/-! ### is not True -/
def rNotBl : R2 := fun x y H Q => ∃ c, y = .bl c ∧ Q (.bl (!decide (x = .bl c))) H
theorem op_notBlV {X : Cx} : OpR X (compareOp .IsNot) rNotBl := by
  intro pins s σ H x y v u Q I rx ry h
  obtain ⟨c, rfl, q⟩ := h
  cases (show u = Value.bool c from ry)
  have e : (v == Value.bool c) = decide (x = V.bl c) := by
    cases x with
    | non => cases rx; rfl
    | bl d =>
      cases (show v = Value.bool d from rx)
      cases c <;> cases d <;> rfl
    | int _ => obtain ⟨t, rfl⟩ := rx; rfl
    | str _ => obtain ⟨t, rfl⟩ := rx; rfl
    | byt _ => obtain ⟨t, rfl⟩ := rx; rfl
    | flt _ => obtain ⟨t, rfl⟩ := rx; rfl
    | ref _ => cases rx; rfl
    | ty _ => cases rx; rfl
  have go : wpAny (model X.prog X.w) X.A (pure (Value.bool (!(v == Value.bool c)))) (EP X pins σ Q) X.xe s := wpAny_pure ⟨.bl _, H, I, by rw [e]; rfl, q⟩
  cases x with
  | non => cases rx; exact go
  | bl d => cases (show v = Value.bool d from rx); exact go
  | int _ => obtain ⟨t, rfl⟩ := rx; exact go
  | str _ => obtain ⟨t, rfl⟩ := rx; exact go
  | byt _ => obtain ⟨t, rfl⟩ := rx; exact go
  | flt _ => obtain ⟨t, rfl⟩ := rx; exact go
  | ref _ => cases rx; exact go
  | ty _ => cases rx; exact go
theorem de_notBl {K : PySem.W.Frag} {b : Bs} {ρ : List Sl} {ta : TE} {Q : D → Prop} {c : Bool} (h : DE K b ρ ta fun x => Q (.bl (!isB x c))) : DE K b ρ (tOp rNotBl ta (tC (.bl c))) Q := fun Hf H σ k fr cc => by
  refine h Hf H σ _ fr fun v x Hf1 H1 e1 f1 r1 q => ?_
  refine ⟨c, rfl, ?_⟩
  have e : decide (v = V.bl c) = isB x c := by
    cases r1 <;> first | rfl | skip
    rename_i d
    cases c <;> cases d <;> rfl
  rw [e]
  exact cc _ _ Hf1 H1 e1 f1 (.bl _) q
end G

set_option Elab.async false
set_option linter.all false
set_option maxRecDepth 100000
set_option maxHeartbeats 4000000
/-! DObj: objects of an own class: made, their attributes set and read, isinstance. -/
namespace G
open PySem PySem.Spec PyProof.Rows L2
theorem Rm.make {k : Nat} {A : Around} (r : Rm true (k + 1) A) (C : Addr) (us : List Value) (kw : List (Str × Value)) : Rm true k (A.under (.builtin "type.__call__" ⟨.ref C :: us, kw⟩)) :=
  { dp := by have := r.dp; rw [make_depth]; omega, un := by have := r.un; rw [make_units]; omega, gd := by
      have g := r.gd
      first | exact g | (simpa [Around.under, Code.isGuard, guardIds] using g), hd := fun z => r.hd z }
section
variable {X : Cx} {k : Nat} {f C : Addr} {fd : FuncData} {ps : List Str} {sp : Sp} {E : L2.St → XK} {x : Str} {p pos : Pos} {e : Expr} {es : List Expr} {t : TA}
theorem run_makeG {pins : List (Addr × Obj)} {σ : L2.St} {H : Hp} {s : Shared} {Q : VK} {us : List Value} {vs : List V} (M : Mk X.K C f) (F : FnG X.prog X.w X.K X.mg X.base true k f fd ps (fun _ => sp)) (hr : Rm true (k + 1) X.A) (hb : Binds X.K fd ps [])
    (hx : Lets X E) (I : Inv X pins σ H s) (r : Vals vs us)
    (h : ∀ x dx, H x = none → H dx = none → dx ≠ x → sp (.ref x :: vs) (upd (upd H dx (.own x)) x (.ins C dx [])) (fun v H2 => v = .non ∧ Q (.ref x) H2) (E σ)) :
    wpAny (model X.prog X.w) X.A (call (.ref C) us) (EP X pins σ Q) X.xe s := by
  have hq := h (s.heap.objs.size + 1) s.heap.objs.size (I.hok.fresh (Nat.le_succ _)) (I.hok.fresh (Nat.le_refl _)) (Nat.ne_of_lt (Nat.lt_succ_self _))
  have I2 := Inv.made (C := C) I
  have r2 : Vals (V.ref (s.heap.objs.size + 1) :: vs) (Value.ref (s.heap.objs.size + 1) :: us) := .cons rfl r
  have hl : (Value.ref (s.heap.objs.size + 1) :: us ++ ([] : List Value)).length = ps.length := by
    have e := r2.length
    rw [F.len [] _ _ _ _ hq] at e
    rw [List.append_nil]
    exact e.symm
  have b := hb _ (Value.ref (s.heap.objs.size + 1) :: us) I2.kIn hl
  rw [List.append_nil] at b
  refine wpAny_call (make_map (f := f) I.kIn M.makes M.init (beq_iff_eq.mp M.fn) (codeAny_mono (F.run _ X.stack _ _ ⟨Value.ref (s.heap.objs.size + 1) :: us, []⟩ (Value.ref (s.heap.objs.size + 1) :: us) _ _ (E σ) [] (hr.make C us []) (fun p h => nomatch h)
    (I2.env0.make C us []) b r2 hq) fun r s' hq' => ?_))
  match r, hq' with
  | .error e, hq' => exact hx σ pins _ _ e s' I2 hq'
  | .ok (.ret u), hq' =>
    obtain ⟨v, H', I3, rv, ev, q3⟩ := I2.after hq'
    subst ev
    exact ⟨rv, ⟨V.ref (s.heap.objs.size + 1), H', I3, rfl, q3⟩⟩
  | .ok .next, hq' => exact False.elim hq'
  | .ok .brk, hq' => exact False.elim hq'
  | .ok .cont, hq' => exact False.elim hq'
/-- C(e, ..) -/
def tMakeG (C : Addr) (sp : Sp) (E : L2.St → XK) (t : TA) : TE := fun σ H Q => t σ H fun vs H1 => ∀ x dx, H1 x = none → H1 dx = none → dx ≠ x →
  sp (.ref x :: vs) (upd (upd H1 dx (.own x)) x (.ins C dx [])) (fun v H2 => v = .non ∧ Q (.ref x) H2) (E σ)
theorem pe_makeG (M : Mk X.K C f) (F : FnG X.prog X.w X.K X.mg X.base true k f fd ps (fun _ => sp)) (hr : Rm true (k + 1) X.A) (hg : Gl X x) (hm : X.mg x = some (.ref C)) (hb : Binds X.K fd ps []) (hx : Lets X E)
    (ha : PA X (e :: es) t) (hdb : (x == ("__debug__" : Str)) = false := by decide) (he : starEach (e :: es) X.env = (false, eval e X.env) :: starEach es X.env := by rfl) (hpl : (backTo pos (starEach es X.env)).any (·.1) = false := by rfl) :
    PE X (.Call (.Name x p) (e :: es) [] pos) (tMakeG C sp E t) := by
  refine ⟨fun pins s σ H Q I h => ?_⟩
  refine wpAny_Call_Name_kw (ld_glob I hg hm ?_ hdb)
  refine PySem.W.callWith_K (h₀ := X.base) I.ok.mod.kin M.kp (thn (ha.run pos pins s σ H _ I h) ?_) he hpl
  intro us s1 z
  obtain ⟨vs, H1, I1, r, q⟩ := z
  exact ⟨I1.kIn, run_makeG M F hr hb hx I1 r q⟩
end
/-- what __init__ promises over data: R tells the attributes -/
def spI (K : PySem.W.Frag) (C : Addr) (F : List Sl → (List (Str × D) → Prop) → (Addr → List (Str × D) → Prop) → Prop) : Sp := fun vs H Q E => ∃ (b : Bs) (Hf H1 : Hp) (x dx : Addr) (ws : List V) (ss : List Sl) (R : List (Str × D) → Prop) (X : Addr → List (Str × D) → Prop),
  vs = .ref x :: ws ∧ H = upd (upd H1 dx (.own x)) x (.ins C dx []) ∧ H1 x = none ∧ H1 dx = none ∧ dx ≠ x ∧ Exit K b Hf H1 ∧ Paired (ArgOk K b.M Hf) ws ss ∧ F ss R X ∧
  (∀ xs fs Hf' H', Exit K (b.cut Hf H1) Hf' H' → Hf' x = some (.ins C dx xs) → xs.map (·.1) = fs.map (·.1) → RpA K Hf' (xs.map (·.2)) (fs.map (·.2)) → R fs → Q .non H') ∧
  (∀ C fs d Hf' H', Exit K (b.cut Hf H1) Hf' H' → ExD K Hf' d fs → X C fs → E (.ref C) d H')
section
variable {K : PySem.W.Frag} {b : Bs} {ρ : List Sl} {Hf H Hf' H' : Hp} {σ : L2.St}
theorem Exit.hide (x : Exit K b Hf H) {p : Addr} {o : HO} (hp : H p = none) : Exit K b Hf (upd H p o) := by
  have np := x.exF.no hp
  have nb := x.exB.no hp
  exact x.work (o := some o) np nb (up_not x hp) fun a n => upd_ne n
theorem de_make {C : Addr} {F : List Sl → (List (Str × D) → Prop) → (Addr → List (Str × D) → Prop) → Prop} {E : L2.St → XK} {X : Addr → List (Str × D) → Prop} {tr : TA} {Q : D → Prop} (hE : EL K b ρ E X) (h : DC K b ρ tr fun ss => F ss (fun fs => Q (.obj C fs)) X) : DE K b ρ (tMakeG C (spI K C F) E tr) Q := fun Hf H σ k fr c => by
  refine h Hf H σ _ fr fun vs ss Hf1 H1 e1 f1 r1 q x dx hx hdx hne => ?_
  refine ⟨b, Hf1, H1, x, dx, vs, ss, _, X, rfl, rfl, hx, hdx, hne, f1.ex, r1, q, fun xs fs Hf' H' y hx' hk ra hR => ?_, fun C fs d Hf' H' y e z => ?_⟩
  · obtain ⟨u, f2⟩ := f1.back y
    exact ⟨rfl, c (.ref x) (.obj C fs) Hf' H' (e1.trans u) f2 (.obj hx' hk ra) hR⟩
  · obtain ⟨u, f2⟩ := f1.back y
    exact hE Hf' H' σ f2 C fs d e z
/-- o.f -/
theorem de_fld {C : Addr} {f : Str} {ta : TE} {Q : D → Prop} (cl : Cls K C) (na : NoAttr K C f) (h : DE K b ρ ta fun x => ∃ fs d, x = .obj C fs ∧ fs.lookup f = some d ∧ Q d) : DE K b ρ (tFld K ta f) Q := fun Hf H σ k fr c => by
  refine h Hf H σ _ fr fun v x Hf1 H1 e1 f1 r1 ⟨fs, d, e, hl, q⟩ => ?_
  subst e
  cases r1 with
  | obj h1 hk ra =>
    rename_i a dx xs
    have get : ∀ {xs : List (Str × V)} {fs : List (Str × D)}, xs.map (·.1) = fs.map (·.1) → RpA K Hf1 (xs.map (·.2)) (fs.map (·.2)) → fs.lookup f = some d → ∃ v, xs.lookup f = some v ∧ Rp K Hf1 v d := by
      intro xs
      induction xs with
      | nil =>
        intro fs hk ra hl
        cases fs with
        | nil => cases hl
        | cons p r => cases hk
      | cons p r ih =>
        intro fs hk ra hl
        cases fs with
        | nil => cases hk
        | cons p' r' =>
          obtain ⟨k1, v1⟩ := p
          obtain ⟨k2, d2⟩ := p'
          simp only [List.map_cons, List.cons.injEq] at hk
          obtain ⟨hk1, hk2⟩ := hk
          subst hk1
          simp only [List.map_cons] at ra
          cases ra with
          | cons r1 r2 =>
            rw [List.lookup_cons] at hl ⊢
            cases hb : (f == k1) with
            | true =>
              rw [hb] at hl
              cases hl
              exact ⟨v1, rfl, r1⟩
            | false =>
              rw [hb] at hl
              exact ih hk2 r2 hl
    obtain ⟨v, hv, rv⟩ := get hk ra hl
    exact ⟨a, C, dx, xs, v, rfl, f1.ex.exF _ _ h1, cl, na, hv, c _ _ Hf1 H1 e1 f1 rv q⟩
/-! ### isinstance(x, C) -/
theorem de_isC {C : Addr} {pn : PinP} {ta : TE} {Q : D → Prop} (c : C8.InsC K C) (h : DE K b ρ ta fun x => ∃ fs, x = .obj C fs ∧ Q (.bl true)) : DE K b ρ (tCB (rIsG K pn) (tCons ta (tCons (tC (.ref C)) tNil))) Q :=
  de_cb (da_cons (h.imp fun x ⟨fs, e, q⟩ => da_cons (de_fn (da_nil fun Hf H σ k vs f rr cc => by
    subst e
    cases rr with
    | cons r1 rr =>
      cases rr with
      | cons r2 rr =>
        cases rr
        cases r2
        cases r1 with
        | obj h1 hk ra => exact Or.inl ⟨_, _, _, _, true, rfl, .own C, .base (.ins (f.ex.exF _ _ h1) c.cl c.ha c.hn c.htk c.hm), c.me, cc _ _ Hf H Up.refl f (.bl _) q⟩))))
theorem de_isNC {C : Addr} {pn : PinP} {ta : TE} {Q : D → Prop} (h : DE K b ρ ta fun x => ∃ t, tyD x = some t ∧ PySem.W.kitOne K (.type t) (.ref C) = some false ∧ Q (.bl false)) : DE K b ρ (tCB (rIsG K pn) (tCons ta (tCons (tC (.ref C)) tNil))) Q :=
  de_cb (da_cons (h.imp fun x ⟨t, e1, e2, q⟩ => da_cons (de_fn (da_nil fun Hf H σ k vs f rr c => by
    cases rr with
    | cons r1 rr =>
      cases rr with
      | cons r2 rr =>
        cases rr
        cases r2
        exact Or.inl ⟨_, _, _, _, false, rfl, .own C, r1.tyX f.ex.exF e1, e2, c _ _ Hf H Up.refl f (.bl _) q⟩))))
end
/-! ### the body of an __init__ -/
def putD (f : Str) (d : D) : List (Str × D) → List (Str × D)
  | [] => [(f, d)]
  | (g, x) :: r => if g = f then (g, d) :: r else (g, x) :: putD f d r
/-- the object at x, its dict at dx, of the class at C, with the attributes fs, stands for none but this body -/
structure MkB (K : PySem.W.Frag) (b : Bs) (x dx C : Addr) (fs : List (Str × D)) : Prop where
  ex : ∃ xs : List (Str × V), b.B x = some (.ins C dx xs) ∧ xs.map (·.1) = fs.map (·.1) ∧ RpA K b.F (xs.map (·.2)) (fs.map (·.2))
  own : b.B dx = some (.own x)
  fx : b.F x = none
  fd : b.F dx = none
  mx : ¬ b.mt x
  ne : dx ≠ x
/-- b knows what bc knows, and the object at x -/
structure Out (bc b : Bs) (x dx : Addr) : Prop where
  eB : Ex bc.B b.B
  eF : Ex bc.F b.F
  fz : ∀ a, bc.B a ≠ none → bc.F a = none → b.F a = none
  M : b.M = bc.M
  T : b.T = bc.T
  nx : bc.B x = none
  nd : bc.B dx = none
theorem keys_put {K : PySem.W.Frag} {Hf : Hp} {f : Str} {v : V} {d : D} (r : Rp K Hf v d) : ∀ {xs : List (Str × V)} {fs : List (Str × D)}, xs.map (·.1) = fs.map (·.1) → RpA K Hf (xs.map (·.2)) (fs.map (·.2)) → (putF f v xs).map (·.1) = (putD f d fs).map (·.1) ∧ RpA K Hf ((putF f v xs).map (·.2)) ((putD f d fs).map (·.2))
  | [], [], _, _ => ⟨rfl, .cons r .nil⟩
  | [], _ :: _, h, _ => by cases h
  | _ :: _, [], h, _ => by cases h
  | (g, u) :: xs, (g', e) :: fs, h, ra => by
    simp only [List.map_cons, List.cons.injEq] at h
    obtain ⟨h1, h2⟩ := h
    subst h1
    simp only [List.map_cons] at ra
    cases ra with
    | cons r1 r2 =>
      obtain ⟨i1, i2⟩ := keys_put r h2 r2
      unfold putF putD
      by_cases z : g = f
      · rw [if_pos z, if_pos z]
        exact ⟨by simp only [List.map_cons, h2], .cons r r2⟩
      · rw [if_neg z, if_neg z]
        exact ⟨by simp only [List.map_cons, i1], .cons r1 i2⟩
theorem look_rp {K : PySem.W.Frag} {Hf : Hp} {f : Str} {d : D} : ∀ {xs : List (Str × V)} {fs : List (Str × D)}, xs.map (·.1) = fs.map (·.1) → RpA K Hf (xs.map (·.2)) (fs.map (·.2)) → fs.lookup f = some d → ∃ v, xs.lookup f = some v ∧ Rp K Hf v d
  | [], [], _, _, hl => by cases hl
  | [], _ :: _, h, _, _ => by cases h
  | _ :: _, [], h, _, _ => by cases h
  | (k1, v1) :: r, (k2, d2) :: r', hk, ra, hl => by
    simp only [List.map_cons, List.cons.injEq] at hk
    obtain ⟨hk1, hk2⟩ := hk
    subst hk1
    simp only [List.map_cons] at ra
    cases ra with
    | cons r1 r2 =>
      rw [List.lookup_cons] at hl ⊢
      cases hb : (f == k1) with
      | true =>
        rw [hb] at hl
        cases hl
        exact ⟨v1, rfl, r1⟩
      | false =>
        rw [hb] at hl
        exact look_rp hk2 r2 hl
section
variable {K : PySem.W.Frag} {bc b : Bs} {ρ : List Sl} {Hf H : Hp} {σ : L2.St} {x dx C : Addr} {fs : List (Str × D)} {f : Str}
theorem Out.exit (o : Out bc b x dx) (y : Exit K b Hf H) : Exit K bc Hf H :=
  { exF := y.exF, ex0 := o.eF.trans y.ex0, exB := o.eB.trans y.exB, frz := fun a h k => y.frz a (fun z => h (o.eB.no z)) (o.fz a h k)
    pens := fun p hp => by
      obtain ⟨z1, z2, z3⟩ := y.pens p (by rw [o.M]; exact hp)
      exact ⟨z1, o.eB.no z2, z3⟩
    tabs := fun p hp => by
      obtain ⟨z1, z2, z3, z4⟩ := y.tabs p (by rw [o.T]; exact hp)
      exact ⟨z1, o.eB.no z2, by rw [← o.M]; exact z3, z4⟩ }
def DSo (K : PySem.W.Frag) (bc b : Bs) (x dx C : Addr) (ρ : List Sl) (fs : List (Str × D)) (t : TS) (N : Bs → List Sl → List (Str × D) → Prop) : Prop :=
  ∀ (Hf H : Hp) (σ : L2.St) (E : Ends), Fm K b Hf H σ ρ → MkB K b x dx C fs → Out bc b x dx →
    (∀ (b' : Bs) (ρ' : List Sl) (fs' : List (Str × D)) (σ' : L2.St) (Hf' H' : Hp), Out bc b' x dx → MkB K b' x dx C fs' → Fm K b' Hf' H' σ' ρ' → N b' ρ' fs' → E.nx σ' H') → t E σ H
variable {N : Bs → List Sl → List (Str × D) → Prop} {ts tw : TS} {tv : TE}
theorem do_seq (h : DSo K bc b x dx C ρ fs ts fun b' ρ' fs' => DSo K bc b' x dx C ρ' fs' tw N) : DSo K bc b x dx C ρ fs (tSeq ts tw) N := fun Hf H σ E f m o k =>
  h Hf H σ _ f m o fun b' ρ' fs' σ' Hf' H' o' m' f' n => n Hf' H' σ' E f' m' o' k
theorem do_ds (h : Out bc b x dx → DS K b ρ ts (fun ρ' => N b ρ' fs) (fun _ => False) (fun _ => False) (fun _ => False)) : DSo K bc b x dx C ρ fs ts N := fun Hf H σ E f m o k =>
  h o Hf H σ E f (fun ρ' σ' Hf' H' e f' n => k b ρ' fs σ' Hf' H' o m f' n) (fun _ _ _ _ _ _ _ z => z.elim) (fun _ _ _ _ _ _ z => z.elim) (fun _ _ _ _ _ _ z => z.elim)
theorem slot_fn (fr : Fm K b Hf H σ ρ) {i : Nat} (hs : ρ[i]? = some (.sh (.fn x))) : σ[i]? = some (some (.ref x)) := by
  have hl : i < σ.length := by rw [fr.len]; exact (List.getElem?_eq_some_iff.mp hs).1
  have ho : σ[i]? = some σ[i] := List.getElem?_eq_getElem hl
  have z := fr.sl i _ _ ho hs
  generalize σ[i] = o at ho z
  match o, z with
  | none, z => exact z.elim
  | some v, z =>
    cases (show Rp K Hf v (.fn x) from z)
    exact ho
theorem do_fld {i : Nat} (hs : ρ[i]? = some (.sh (.fn x))) (cl : Cls K C) (na : NoAttr K C f) (h : Out bc b x dx → MkB K b x dx C fs → DE K b ρ tv fun d => fs.length ≤ 900 ∧ ∀ b', N b' ρ (putD f d fs)) : DSo K bc b x dx C ρ fs (sFld K (tVar i) tv f) N := fun Hf H σ E fr m o k => by
  refine h o m Hf H σ _ fr fun v d Hf1 H1 u f1 r ⟨hlen, q⟩ => ?_
  obtain ⟨xs, hx, hk, ra⟩ := m.ex
  have hf : Hf1 x = none := f1.ex.frz x (by rw [hx]; exact fun z => nomatch z) m.fx
  have hfd : Hf1 dx = none := f1.ex.frz dx (by rw [m.own]; exact fun z => nomatch z) m.fd
  have hlx : xs.length = fs.length := by
    have := congrArg List.length hk
    simpa using this
  obtain ⟨p1, p2⟩ := keys_put (f := f) r hk (ra.up f1.ex.ex0)
  refine ⟨.ref x, slot_fn f1 hs, x, C, dx, xs, rfl, f1.ex.exB _ _ hx, cl, na, by omega, ?_⟩
  refine k ⟨upd b.B x (.ins C dx (putF f v xs)), Hf1, b.M, b.T⟩ ρ (putD f d fs) σ Hf1 _ ?_ ?_ ?_ (q _)
  · refine { eB := fun a u e => ?_, eF := o.eF.trans f1.ex.ex0, fz := fun a h1 h2 => f1.ex.frz a (fun z => h1 (o.eB.no z)) (o.fz a h1 h2), M := o.M, T := o.T, nx := o.nx, nd := o.nd }
    show upd b.B x _ a = some u
    rw [upd_ne (ne_of_none e o.nx)]
    exact o.eB _ _ e
  · exact { ex := ⟨_, upd_same, p1, p2⟩, own := (upd_ne m.ne).trans m.own, fx := hf, fd := hfd, mx := m.mx, ne := m.ne }
  · have y := f1.ex
    refine { ex := { exF := fun a u e => ?_, ex0 := Ex.refl _, exB := y.exB.up, frz := fun a _ h => h, pens := fun p hp => ?_, tabs := fun p hp => ?_ }, len := f1.len, sl := fun i o' s h1 h2 => ?_, mine := fun i a z => ?_, sep := f1.sep }
    · rw [upd_ne (ne_of_none e hf)]
      exact y.exF _ _ e
    · obtain ⟨z1, z2, o', z3, z4⟩ := y.pens p hp
      have n : p ≠ x := fun w => m.mx (by rw [← w]; exact Bs.mtM hp)
      exact ⟨z1, (upd_ne n).trans z2, o', (upd_ne n).trans z3, z4⟩
    · obtain ⟨z1, z2, z3, z4⟩ := y.tabs p hp
      have n : p.1 ≠ x := fun w => m.mx (by rw [← w]; exact Bs.mtT hp)
      exact ⟨z1, (upd_ne n).trans z2, z3, z4.up (Ex.refl _) (upd_ne n)⟩
    · have q := f1.sl i o' s h1 h2
      match o', s, q with
      | _, .no, _ => trivial
      | some v, .sh d, q => exact q
      | some v, .pen, q => exact q
      | some v, .ow ds, q =>
        obtain ⟨a, ys, rfl, h3, h4, r, nm⟩ := q
        have n : a ≠ x := fun w => by
          rw [w, y.exB _ _ hx] at h4
          cases h4
        exact ⟨a, ys, rfl, h3, (upd_ne n).trans h4, r, nm⟩
    · have q := f1.mine i a z
      have n : a ≠ x := fun w => by
        rw [w, hx] at q
        cases q
      exact (upd_ne n).trans q
/-- self.f, an attribute that is set -/
theorem de_self {i : Nat} {d : D} {Q : D → Prop} (m : MkB K b x dx C fs) (hs : ρ[i]? = some (.sh (.fn x))) (cl : Cls K C) (na : NoAttr K C f) (hl : fs.lookup f = some d) (q : Q d) : DE K b ρ (tFld K (tVar i) f) Q := fun Hf H σ k fr c => by
  obtain ⟨xs, hx, hk, ra⟩ := m.ex
  obtain ⟨v, hv, rv⟩ := look_rp hk (ra.up fr.ex.ex0) hl
  exact ⟨.ref x, slot_fn fr hs, x, C, dx, xs, v, rfl, fr.ex.exB _ _ hx, cl, na, hv, c _ _ Hf H Up.refl fr rv q⟩
end
section
variable {P : Program} {w : World} {K : PySem.W.Frag} {mg : Str → Option Value} {base : Heap} {N ps : List Str} {x0 qual : Str} {st : Stmt} {f C : Addr} {fd : FuncData} {k : Nat} {c : Bool}
theorem fn_dataI {Fd : List Sl → (List (Str × D) → Prop) → (Addr → List (Str × D) → Prop) → Prop} (F : Fun K x0 qual st f fd) (S : FnScope N ps (defScope st)) (len : ∀ ss R X, Fd ss R X → ss.length + 1 = ps.length)
    (body : ∀ (cdv : Value) (A : Around) (outer : List Env) (s : Shared) (H : Hp) (E : XK) (pl : Pins), Rm c k (A.deeper (envOfC qual (defScope st) s.heap.objs.size f cdv)) →
      ∃ t, PSs (cxG P w K mg base N qual (defScope st) f cdv A outer s H E c pl) (defBody st) t ∧ ∀ (bc b : Bs) (x dx : Addr) ss R X, Fd ss R X → (∀ b', Out bc b' x dx → ∀ ρ, EL K b' ρ (fun _ => E) X) →
        DSo K bc b x dx C (.sh (.fn x) :: ss ++ List.replicate (N.length - ps.length) .no) [] t (fun _ _ fs => R fs)) :
    FnG P w K mg base c (k + 1) f fd ps (fun _ => spI K C Fd) := by
  have hlen : ∀ (pl : Pins) vs H Q E, spI K C Fd vs H Q E → vs.length = ps.length := fun pl vs H Q E h => by
    obtain ⟨b, Hf, H1, x, dx, ws, ss, R, X, rfl, h2, h3, h4, h5, h6, h7, h8, _⟩ := h
    rw [List.length_cons, h7.length]
    exact len ss R X h8
  refine fn_goC F S hlen fun cdv A outer s H vs Q E pl hc hr hsp => ?_
  have hl := hlen pl _ _ _ _ hsp
  obtain ⟨b, Hf, H1, x, dx, ws, ss, R, X, rfl, rfl, hx, hdx, hne, ex, ha, hF, hR, hX⟩ := hsp
  obtain ⟨t, ht, hd⟩ := body cdv A outer s _ E pl hr
  refine ⟨t, ht, ?_⟩
  have ey : Exit K b Hf (upd (upd H1 dx (.own x)) x (.ins C dx [])) := (ex.hide (o := .own x) hdx).hide (by rw [upd_ne hne.symm]; exact hx)
  have nmx : ¬ b.mt x := up_not ex hx
  have nmd : ¬ b.mt dx := up_not ex hdx
  have fx := ex.exF.no hx
  have fdx := ex.exF.no hdx
  have cB : ∀ a o, (b.cut Hf H1).B a = some o → H1 a = some o := fun a o e => by
    have e' : (if a ∈ b.M ∨ a ∈ b.T.map (·.1) then none else H1 a) = some o := e
    by_cases z : a ∈ b.M ∨ a ∈ b.T.map (·.1)
    · rw [if_pos z] at e'; cases e'
    · rw [if_neg z] at e'; exact e'
  have cx : (b.cut Hf H1).B x = none := by
    cases q : (b.cut Hf H1).B x with
    | none => rfl
    | some o => rw [cB _ _ q] at hx; cases hx
  have cd : (b.cut Hf H1).B dx = none := by
    cases q : (b.cut Hf H1).B dx with
    | none => rfl
    | some o => rw [cB _ _ q] at hdx; cases hdx
  have fr0 : Fm K (b.cut Hf (upd (upd H1 dx (.own x)) x (.ins C dx []))) Hf (upd (upd H1 dx (.own x)) x (.ins C dx [])) (L2.start N (.ref x :: ws)) (.sh (.fn x) :: ss ++ List.replicate (N.length - ps.length) .no) :=
    startT_ok hl ey (.cons (.fn x) ha)
  have b1B : ∀ a, ¬ b.mt a → (b.cut Hf (upd (upd H1 dx (.own x)) x (.ins C dx []))).B a = upd (upd H1 dx (.own x)) x (.ins C dx []) a := fun a n => by
    show (if a ∈ b.M ∨ a ∈ b.T.map (·.1) then none else upd (upd H1 dx (.own x)) x (.ins C dx []) a) = _
    rw [if_neg (show ¬ (a ∈ b.M ∨ a ∈ b.T.map (·.1)) from n)]
  refine hd (b.cut Hf H1) _ x dx ss R X hF (fun b' o ρ Hf' H' σ' fr' C' fs' d' e1 e2 => hX C' fs' d' Hf' H' (o.exit fr'.ex) e1 e2) Hf _ _ _ fr0 ?_ ?_ (fun b' ρ' fs' σ' Hf' H' o' m' f' hRf => ?_)
  · exact { ex := ⟨[], (b1B x nmx).trans upd_same, rfl, .nil⟩, own := (b1B dx nmd).trans ((upd_ne hne).trans upd_same), fx := fx, fd := fdx, mx := nmx, ne := hne }
  · refine { eB := fun a o e => ?_, eF := Ex.refl _, fz := fun a _ h => h, M := rfl, T := rfl, nx := cx, nd := cd }
    have n : ¬ b.mt a := fun z => by
      have e' : (if a ∈ b.M ∨ a ∈ b.T.map (·.1) then none else H1 a) = some o := e
      rw [if_pos (show a ∈ b.M ∨ a ∈ b.T.map (·.1) from z)] at e'
      cases e'
    rw [b1B a n, upd_ne (ne_of_none e cx), upd_ne (ne_of_none e cd)]
    exact cB _ _ e
  · obtain ⟨xs, hx', hk', ra'⟩ := m'.ex
    have y := f'.ex
    have gx : Hf' x = none := y.frz x (by rw [hx']; exact fun z => nomatch z) m'.fx
    have gd : Hf' dx = none := y.frz dx (by rw [m'.own]; exact fun z => nomatch z) m'.fd
    have gx2 : upd Hf' dx (.own x) x = none := (upd_ne hne.symm).trans gx
    have e2 : Ex Hf' (upd (upd Hf' dx (.own x)) x (.ins C dx xs)) := (Ex.new gd).trans (Ex.new gx2)
    have oy := o'.exit y
    refine hR xs fs' (upd (upd Hf' dx (.own x)) x (.ins C dx xs)) H' ?_ upd_same hk' ((ra'.up y.ex0).up e2) hRf
    refine { exF := fun a u e => ?_, ex0 := oy.ex0.trans e2, exB := oy.exB, frz := fun a h1 h2 => ?_, pens := fun p hp => ?_, tabs := fun p hp => ?_ }
    · by_cases z : a = x
      · subst z; rw [upd_same] at e; cases e; exact y.exB _ _ hx'
      · rw [upd_ne z] at e
        by_cases z2 : a = dx
        · subst z2; rw [upd_same] at e; cases e; exact y.exB _ _ m'.own
        · rw [upd_ne z2] at e; exact y.exF _ _ e
    · rw [upd_ne (fun z => h1 (by rw [z]; exact cx)), upd_ne (fun z => h1 (by rw [z]; exact cd))]
      exact oy.frz a h1 h2
    · obtain ⟨z1, z2, o, z3, z4⟩ := oy.pens p hp
      have n1 : p ≠ x := fun z => nmx (by rw [← z]; exact Bs.mtM hp)
      have n2 : p ≠ dx := fun z => nmd (by rw [← z]; exact Bs.mtM hp)
      exact ⟨by rw [upd_ne n1, upd_ne n2]; exact z1, z2, o, z3, z4.up e2⟩
    · obtain ⟨z1, z2, z3, z4⟩ := oy.tabs p hp
      have n1 : p.1 ≠ x := fun z => nmx (by rw [← z]; exact Bs.mtT hp)
      have n2 : p.1 ≠ dx := fun z => nmd (by rw [← z]; exact Bs.mtT hp)
      exact ⟨by rw [upd_ne n1, upd_ne n2]; exact z1, z2, z3, z4.up e2 rfl⟩
end
end G
namespace G
open PySem PySem.Spec PyProof.Rows L2
/-- what an own class must say -/
structure OwnC (K : PySem.W.Frag) (C : Addr) : Prop where
  cl : Cls K C
  ha : PySem.W.findIn K (.ref C) "__class__" = some (some (.builtin "object.__class__"))
  hn : PySem.W.specialIn K (.builtin "object.__class__") "__get__" = some (some (.builtin "getset_descriptor.__get__"))
  htk : PySem.W.takesIn K (.builtin "object.__class__") = some true
  hm : PySem.W.mroIn K C (.type "object") = some true
  isC : PySem.W.isClsIn K C = true
  ty : PySem.W.typeIn K (.ref C) = some (.type "type")
theorem OwnC.ins {K : PySem.W.Frag} {C : Addr} (h : OwnC K C) : C8.InsC K C := ⟨h.cl, h.ha, h.hn, h.htk, h.hm, if_pos (beq_self_eq_true _)⟩
/-- plain data are of no own class -/
theorem OwnC.not {K : PySem.W.Frag} {C : Addr} (h : OwnC K C) {d : D} {t : String} (e : tyD d = some t) : PySem.W.kitOne K (.type t) (.ref C) = some false := by
  have go : ∀ T : String, (PySem.fastBuiltinMro T).map (·.contains (Value.ref C)) = some false → PySem.W.kitOne K (.type T) (.ref C) = some false := fun T q => by
    unfold PySem.W.kitOne
    rw [if_neg (by simp)]
    show (if ((PySem.W.clsIn K C).isSome && PySem.W.typeIn K (.ref C) == some (.type "type")) = true then PySem.W.subIn K (.type T) (.ref C) else none) = _
    rw [if_pos (by rw [show (PySem.W.clsIn K C).isSome = true from h.isC, h.ty] <;> rfl)]
    exact q
  cases d with
  | non => cases e; exact go _ (by kernel_rfl)
  | bl _ => cases e; exact go _ (by kernel_rfl)
  | int _ => cases e; exact go _ (by kernel_rfl)
  | str _ => cases e; exact go _ (by kernel_rfl)
  | tup _ => cases e; exact go _ (by kernel_rfl)
  | lst _ => cases e; exact go _ (by kernel_rfl)
  | dic _ => cases e; exact go _ (by kernel_rfl)
  | ty _ => cases e
  | fn _ => cases e
  | obj _ _ => cases e
  | exc _ _ _ _ => cases e
end G

set_option Elab.async false
set_option linter.all false
set_option maxRecDepth 100000
set_option maxHeartbeats 4000000
/-! DSet: items of a list of one's own are read and set; sum, max, min. -/
namespace G
open PySem PySem.Spec PyProof.Rows L2
section
variable {K : PySem.W.Frag} {b : Bs} {ρ : List Sl} {ta tb te : TE} {tr : TA} {Q : D → Prop} {Hf H : Hp} {nx bk ct : List Sl → Prop} {rt : D → Prop}
theorem RpA.set : ∀ {vs : List V} {ds : List D} (j : Nat) {v : V} {d : D}, RpA K Hf vs ds → Rp K Hf v d → RpA K Hf (vs.set j v) (ds.set j d)
  | _, _, _, _, _, .nil, _ => .nil
  | _, _, 0, _, _, .cons _ r, q => .cons q r
  | _, _, j + 1, _, _, .cons p r, q => .cons p (r.set j q)
/-- own[i], read -/
theorem de_ix_own {i : Nat} {l : List D} (hi : ρ[i]? = some (.ow l)) (h : DE K b ρ tb fun y => ∃ k d, y = .int k ∧ L2.atI l k = some d ∧ Q d) : DE K b ρ (tOp (rIx K) (tVar i) tb) Q := fun Hf H σ k fr c => by
  obtain ⟨a, xs, ho, h1, h2, h3⟩ := own_at fr hi
  refine ⟨_, ho, ?_⟩
  refine h Hf H σ _ fr fun u y Hf2 H2 e2 f2 r2 ⟨kk, d, ey, hd, q⟩ => ?_
  subst ey
  have eu := r2.int_inv
  subst eu
  obtain ⟨a', ys, ho', k1, k2, k3⟩ := own_at f2 hi
  rw [ho] at ho'
  cases ho'
  obtain ⟨v', e1, r1⟩ := k3.atI (i := kk) hd
  exact Or.inl ⟨_, _, kk, v', rfl, rfl, SqL.of k2, e1, c _ _ Hf2 H2 e2 f2 r1 q⟩
/-- own[i] = .. -/
theorem dg_sub {i : Nat} {l : List D} {x : D} {R : List Sl → Prop} (hi : ρ[i]? = some (.ow l)) (h : DE K b ρ tb fun y => ∃ k j, y = .int k ∧ ixN l.length k = some j ∧ R (ρ.set i (.ow (l.set j x)))) : DG K b ρ (gSub (tVar i) tb rSetL) x R := fun Hf H σ v k fr r c => by
  obtain ⟨a, xs, ho, h1, h2, h3⟩ := own_at fr hi
  refine ⟨_, ho, ?_⟩
  refine h Hf H σ _ fr fun u y Hf2 H2 e2 f2 r2 ⟨kk, j, ey, hj, q⟩ => ?_
  subst ey
  have eu := r2.int_inv
  subst eu
  obtain ⟨a', ys, ho', k1, k2, k3⟩ := own_at f2 hi
  rw [ho] at ho'
  cases ho'
  exact ⟨a, ys, kk, j, rfl, rfl, k2, by rw [k3.len]; exact hj, c _ σ Hf2 _ e2.1 (f2.chg hi ho (k3.set j (r.up e2.1))) q⟩
/-- a, b, c = [..], 1, 1 -/
theorem ds_par3C {i j m : Nat} {v1 v2 : V} {x y : D} (h1 : ∀ Hf, Rp K Hf v1 x) (h2 : ∀ Hf, Rp K Hf v2 y) (h : DN K b ρ te fun l => nx (((ρ.set i (.ow l)).set j (.sh x)).set m (.sh y))) : DS K b ρ (tPar3 i j m (tCons te (tCons (tC v1) (tCons (tC v2) tNil)))) nx rt bk ct := fun Hf H σ D fr n r bk ct => by
  refine h Hf H σ _ fr fun p xs ds Hf1 H1 e1 f1 hp ra q => ?_
  exact ⟨.ref p, v1, v2, rfl, n _ _ Hf1 _ e1.1 (((f1.own hp ra).set (h1 _)).set (h2 _)) q⟩
/-! ### sum, max, min of ints -/
theorem ints_of : ∀ {ns : List Int} {xs : List V}, RpA K Hf xs (ns.map D.int) → xs = ns.map V.int
  | [], _, r => by cases r; rfl
  | c :: ns, _, r => by
    cases r with
    | cons r1 r2 =>
      have := r1.int_inv
      subst this
      rw [ints_of r2] <;> rfl
theorem de_sum (h : DE K b ρ ta fun x => ∃ ns : List Int, x = .lst (ns.map D.int) ∧ Q (.int ns.sum)) : DE K b ρ (tCB (rSum K) (tCons ta tNil)) Q :=
  de_cb1 (h.imp fun x ⟨ns, e, q⟩ Hf H σ k v f rv c => by
    subst e
    cases rv with
    | lst h1 a1 =>
      have e := ints_of a1
      subst e
      exact ⟨_, ns, rfl, SqL.of (f.ex.exF _ _ h1), c _ _ Hf H Up.refl f (.int _) q⟩)
/-- [f(a, b) for a, b in zip(..)] -/
theorem dn_zipmap {wi : TI} {vs : List Nat} {i j : Nat} {R : List D → Prop} (f : D → D → D) (h1 : i ∈ vs) (h2 : j ∈ vs) (hi : DI K b ρ wi fun l => ∃ lx ly, l = zipD lx ly ∧ lx.length ≤ 16000 ∧ (∀ (n : Nat) x y, lx[n]? = some x → ly[n]? = some y → DE K b (((wipeR ρ vs).set i (.sh x)).set j (.sh y)) te fun z => z = f x y) ∧ R (List.zipWith f lx ly)) :
    DN K b ρ (tLc wi (gTup K 2 (gCons (gName i) (gCons (gName j) gNil))) tYes te vs) R := by
  refine dn_lc (fun Hf H σ k fr c => hi Hf H σ k fr fun J l Hf' H' u f' it ⟨lx, ly, el, hl, hd, hR⟩ => c J l Hf' H' u f' it ⟨fun k acc => acc = (List.zipWith f lx ly).take k, by simp, fun k d acc hk hacc => ?_, fun acc hacc => ?_⟩)
  · subst el
    unfold zipD at hk
    rw [List.getElem?_zipWith] at hk
    cases ex : lx[k]? with
    | none => rw [ex] at hk; cases hk
    | some x =>
      cases ey : ly[k]? with
      | none => rw [ex, ey] at hk; cases hk
      | some y =>
        rw [ex, ey] at hk
        have ed : d = .tup [x, y] := (Option.some.inj hk).symm
        refine dgw_tup ed rfl (dgws_cons (dgw_name h1 (dgws_cons (dgw_name h2 (dgws_nil ?_)))))
        refine fun Hf H σ k' fr c => c true Hf H Up.refl fr (iteT ?_)
        refine (hd k x y ex ey).imp fun z hz => ?_
        have il : k < lx.length := (List.getElem?_eq_some_iff.mp ex).1
        subst hacc
        refine ⟨?_, ?_⟩
        · rw [List.length_take, List.length_zipWith]; omega
        · have e : (List.zipWith f lx ly)[k]? = some (f x y) := by rw [List.getElem?_zipWith, ex, ey]
          show (List.zipWith f lx ly).take k ++ [z] = (List.zipWith f lx ly).take (k + 1)
          rw [hz, List.take_succ, e] <;> rfl
  · subst el
    have e : (zipD lx ly).length = (List.zipWith f lx ly).length := by rw [zipD_len, List.length_zipWith]
    rw [hacc, e, List.take_length]
    exact hR
end
end G

set_option Elab.async false
set_option linter.all false
set_option maxRecDepth 100000
set_option maxHeartbeats 4000000
/-! DSet2: a, b, c = [..], 1, 1 through a tuple (one of the names caught by a comprehension). -/
namespace G
open PySem PySem.Spec PyProof.Rows L2
section
variable {K : PySem.W.Frag} {b : Bs} {ρ : List Sl} {te : TE} {nx bk ct : List Sl → Prop} {rt : D → Prop}
theorem ds_asg3N {i j m : Nat} {v1 v2 : V} {x y : D} (h1 : ∀ Hf, Rp K Hf v1 x) (h2 : ∀ Hf, Rp K Hf v2 y) (h : DN K b ρ te fun l => nx (((ρ.set i (.ow l)).set j (.sh x)).set m (.sh y))) :
    DS K b ρ (tAsg (tTup (tCons te (tCons (tC v1) (tCons (tC v2) tNil)))) (gTup K 3 (gCons (gName i) (gCons (gName j) (gCons (gName m) gNil))))) nx rt bk ct := fun Hf H σ D fr n r bk ct => by
  refine h Hf H σ _ fr fun p xs ds Hf1 H1 e1 f1 hp ra q => ?_
  refine ⟨by show 3 ≤ sizeLine; decide, fun t ht => ?_⟩
  have f0 := f1.own (i := i) hp ra
  have nt := f0.ex.exF.no ht
  have f2 := f0.put (o := .tup [.ref p, v1, v2]) ht
  refine ⟨t, _, rfl, SqT.of upd_same, rfl, ⟨_, _, rfl, ⟨_, _, rfl, ⟨_, _, rfl, rfl, ?_⟩⟩⟩⟩
  exact n _ _ _ _ (e1.1.trans (Ex.new nt)) ((f2.set (h1 _)).set (h2 _)) q
end
end G

set_option Elab.async false
set_option linter.all false
set_option maxRecDepth 100000
set_option maxHeartbeats 4000000
/-! DPar: a, b = [..], x; two new lists at once; x //= y; range of three; [x] * n; not in. -/
namespace G
open PySem PySem.Spec PyProof.Rows L2
section
variable {K : PySem.W.Frag} {b : Bs} {ρ : List Sl} {ta tb te tc : TE} {tr : TA} {Q : D → Prop} {Hf H : Hp} {σ : L2.St} {nx bk ct : List Sl → Prop} {rt : D → Prop}
/-- a list that stands in the heap, and is no slot's, is taken for one's own -/
theorem Fm.take (fr : Fm K b Hf H σ ρ) {i : Nat} {p : Addr} {xs : List V} {ds : List D} (hp : H p = some (.lst xs)) (np : Hf p = none) (hB : b.B p = none) (nm : p ∉ b.M) (no : ∀ j, ¬ Own σ ρ j p) (r : RpA K Hf xs ds) : Fm K b Hf H (σ.set i (some (.ref p))) (ρ.set i (.ow ds)) := by
  have old : ∀ j a, j ≠ i → Own (σ.set i (some (.ref p))) (ρ.set i (.ow ds)) j a → Own σ ρ j a ∧ a ≠ p := fun j a z ⟨⟨es, h1⟩, h2⟩ => by
    rw [List.getElem?_set_ne (Ne.symm z)] at h1 h2
    refine ⟨⟨⟨es, h1⟩, h2⟩, fun e => ?_⟩
    subst e
    exact no j ⟨⟨es, h1⟩, h2⟩
  have at_i : ∀ a, Own (σ.set i (some (.ref p))) (ρ.set i (.ow ds)) i a → a = p := fun a ⟨_, h2⟩ => by
    rw [List.getElem?_set] at h2
    simp at h2
    exact h2.2.symm
  refine { ex := fr.ex, len := by rw [List.length_set, List.length_set]; exact fr.len, sl := fun j o s h1 h2 => ?_, mine := fun j a h => ?_, sep := fun j k a h1 h2 => ?_ }
  · by_cases z : j = i
    · subst z
      rw [List.getElem?_set] at h1 h2
      simp at h1 h2
      obtain ⟨_, rfl⟩ := h1
      obtain ⟨_, rfl⟩ := h2
      exact ⟨p, xs, rfl, np, hp, r, nm⟩
    · rw [List.getElem?_set_ne (Ne.symm z)] at h1 h2
      exact fr.sl j o s h1 h2
  · by_cases z : j = i
    · subst z
      rw [at_i a h]
      exact hB
    · exact fr.mine j a (old j a z h).1
  · by_cases z : j = i
    · by_cases y : k = i
      · rw [z, y]
      · subst z
        exact ((old k a y h2).2 (at_i a h1)).elim
    · by_cases y : k = i
      · subst y
        exact ((old j a z h1).2 (at_i a h2)).elim
      · exact fr.sep j k a (old j a z h1).1 (old k a y h2).1
/-- a new list, held in no slot yet -/
structure Held (K : PySem.W.Frag) (b : Bs) (Hf H : Hp) (σ : L2.St) (ρ : List Sl) (p : Addr) (xs : List V) (ds : List D) : Prop where
  fm : Fm K b Hf H σ ρ
  at_ : H p = some (.lst xs)
  nf : Hf p = none
  nB : b.B p = none
  nm : ¬ b.mt p
  no : ∀ j, ¬ Own σ ρ j p
  ra : RpA K Hf xs ds
theorem Held.new {p : Addr} {xs : List V} {ds : List D} (f : Fm K b Hf H σ ρ) (hp : H p = none) (ra : RpA K Hf xs ds) : Held K b Hf (upd H p (.lst xs)) σ ρ p xs ds := by
  have f' : Fm K b Hf (upd H p (.lst xs)) (σ.set σ.length (some (.ref p))) (ρ.set ρ.length (.ow ds)) := by
    have := f.own (i := σ.length) hp ra
    rw [f.len] at this ⊢
    exact this
  rw [List.set_eq_of_length_le (Nat.le_refl _), List.set_eq_of_length_le (Nat.le_refl _)] at f'
  have no : ∀ j, ¬ Own σ ρ j p := fun j ⟨⟨es, h1⟩, h2⟩ => by
    obtain ⟨a', ys, e1, _, h3, _⟩ := f.sl j _ _ h2 h1
    cases e1
    rw [hp] at h3; cases h3
  exact { fm := f', at_ := upd_same, nf := f.ex.exF.no hp, nB := f.ex.exB.no hp, nm := up_not f.ex hp, no := no, ra := ra }
theorem Held.up {p : Addr} {xs : List V} {ds : List D} {Hf' H' : Hp} (h : Held K b Hf H σ ρ p xs ds) (u : Up b Hf H Hf' H') (f : Fm K b Hf' H' σ ρ) : Held K b Hf' H' σ ρ p xs ds := by
  obtain ⟨a1, a2⟩ := u.2 p _ h.at_ h.nm
  exact { fm := f, at_ := a1, nf := a2 h.nf, nB := h.nB, nm := h.nm, no := h.no, ra := h.ra.up u.1 }
theorem Held.take {p : Addr} {xs : List V} {ds : List D} (h : Held K b Hf H σ ρ p xs ds) (i : Nat) : Fm K b Hf H (σ.set i (some (.ref p))) (ρ.set i (.ow ds)) := h.fm.take h.at_ h.nf h.nB (fun z => h.nm (Bs.mtM z)) h.no h.ra
/-- a, b = [..], x -/
theorem ds_parO {i j : Nat} (h : DN K b ρ te fun l => DE K b ρ tb fun d => nx ((ρ.set i (.ow l)).set j (.sh d))) : DS K b ρ (tPar i j (tCons te (tCons tb tNil))) nx rt bk ct := fun Hf H σ D fr n r bk ct => by
  refine h Hf H σ _ fr fun p xs ds Hf1 H1 e1 f1 hp ra q => ?_
  have hd := Held.new f1 hp ra
  refine q _ _ σ _ hd.fm fun v d Hf2 H2 e2 f2 r2 q2 => ?_
  exact ⟨.ref p, v, rfl, n _ _ Hf2 H2 (e1.1.trans e2.1) (((hd.up e2 f2).take i).set r2) q2⟩
/-- a, b = x, [..] -/
theorem ds_parO2 {i j : Nat} (h : DE K b ρ te fun d => DN K b ρ tb fun l => nx ((ρ.set i (.sh d)).set j (.ow l))) : DS K b ρ (tPar i j (tCons te (tCons tb tNil))) nx rt bk ct := fun Hf H σ D fr n r bk ct => by
  refine h Hf H σ _ fr fun v d Hf1 H1 e1 f1 r1 q => ?_
  refine q _ _ σ _ f1 fun p xs ds Hf2 H2 e2 f2 hp ra q2 => ?_
  exact ⟨v, .ref p, rfl, n _ _ Hf2 _ (e1.1.trans e2.1) ((f2.set (r1.up e2.1)).own hp ra) q2⟩
/-- a, b = [..], [..] -/
theorem ds_parOO {i j : Nat} (h : DN K b ρ te fun l => DN K b ρ tb fun m => nx ((ρ.set i (.ow l)).set j (.ow m))) : DS K b ρ (tPar i j (tCons te (tCons tb tNil))) nx rt bk ct := fun Hf H σ D fr n r bk ct => by
  refine h Hf H σ _ fr fun p xs ds Hf1 H1 e1 f1 hp ra q => ?_
  have hd := Held.new f1 hp ra
  refine q _ _ σ _ hd.fm fun p2 xs2 ds2 Hf2 H2 e2 f2 hp2 ra2 q2 => ?_
  exact ⟨.ref p, .ref p2, rfl, n _ _ Hf2 _ (e1.1.trans e2.1) (((hd.up e2 f2).take i).own hp2 ra2) q2⟩
/-- x //= e -/
def ipD : TIp := fun x y H Q => ∃ i j, x = .int i ∧ y = .int j ∧ CDivA i j ∧ Q (.int (i.fdiv j)) H
theorem ip_fdivG {X : Cx} : PIp X .FloorDiv ipD := by
  intro pins s σ H x y v u Q I r1 r2 h
  obtain ⟨i, j, e1, e2, hm, q⟩ := h
  subst e1; subst e2
  obtain ⟨t, rfl⟩ := r1
  obtain ⟨t', rfl⟩ := r2
  exact ifloordiv_int hm.1 ⟨.int _, H, I.tok _, ⟨_, rfl⟩, q⟩ (.inl (PyProof.noPylong_of_log2 hm.2))
theorem ds_augD {i : Nat} {a : Int} (hi : ρ[i]? = some (.sh (.int a))) (h : DE K b ρ te fun y => ∃ j, y = .int j ∧ CDivA a j ∧ nx (ρ.set i (.sh (.int (a.fdiv j))))) : DS K b ρ (tAug i te ipD) nx rt bk ct := fun Hf H σ D fr n r bk ct => by
  have hl : i < σ.length := by rw [fr.len]; exact (List.getElem?_eq_some_iff.mp hi).1
  have ho : σ[i]? = some σ[i] := List.getElem?_eq_getElem hl
  have z := fr.sl i _ _ ho hi
  generalize σ[i] = o at ho z
  match o, z with
  | none, z => exact z.elim
  | some v, z =>
    have ev := Rp.int_inv z
    subst ev
    refine ⟨.int a, ho, ?_⟩
    refine h Hf H σ _ fr fun v d Hf1 H1 e1 f1 r1 ⟨j, e, hm, q⟩ => ?_
    subst e
    exact ⟨a, j, rfl, r1.int_inv, hm, n _ _ Hf1 H1 e1.1 (f1.set (.int _)) q⟩
/-- [..] * n -/
theorem dn_rep {R : List D → Prop} (h : DE K b ρ ta fun x => DE K b ρ tb fun y => ∃ l, ∃ k : Int, x = .lst l ∧ y = .int k ∧ 0 ≤ k ∧ k ≤ 16000 ∧ l.length * k.toNat ≤ 16000 ∧ R (List.replicate k.toNat l).flatten) : DN K b ρ (tOp rRep ta tb) R := fun Hf H σ k fr c => by
  refine h Hf H σ _ fr fun v x Hf1 H1 e1 f1 r1 q1 => ?_
  refine q1 Hf1 H1 σ _ f1 fun u y Hf2 H2 e2 f2 r2 ⟨l, m, ex, ey, h0, h1, hz, q⟩ => ?_
  subst ex
  subst ey
  cases r1 with
  | @lst a xs _ g1 a1 =>
    have rep : ∀ (n : Nat), RpA K Hf2 (List.replicate n xs).flatten (List.replicate n l).flatten := fun n => by
      induction n with
      | zero => exact .nil
      | succ n ih =>
        rw [List.replicate_succ, List.replicate_succ, List.flatten_cons, List.flatten_cons]
        exact (a1.up e2.1).app ih
    exact ⟨_, m, _, rfl, r2.int_inv, f2.ex.exF _ _ (e2.1 _ _ g1), by omega, by omega, small_line (by rw [a1.len]; omega), fun p hp => c p _ _ Hf2 H2 (e1.trans e2) f2 hp (rep _) q⟩
/-- range(i, j, c), c > 0 -/
def rngC (lo c : Int) (m : Nat) : List D := (List.range m).map fun (i : Nat) => D.int (lo + (i : Int) * c)
theorem rngC_len {lo c : Int} {m : Nat} : (rngC lo c m).length = m := by unfold rngC; rw [List.length_map, List.length_range]
theorem rngC_at {lo c : Int} {m i : Nat} (h : i < m) : (rngC lo c m)[i]? = some (.int (lo + i * c)) := by
  unfold rngC
  rw [List.getElem?_map, List.getElem?_range h] <;> rfl
theorem itd_rangeC {lo c : Int} {m : Nat} {Hf : Hp} : ItD K b (Itc lo c m) (rngC lo c m) Hf := itd_same fun Hf2 H2 _ _ i => by
  rw [rngC_len]
  refine ⟨fun h => ⟨h, fun x H3 y => ?_⟩, fun h => h⟩
  obtain ⟨e1, e2⟩ := y
  exact ⟨e1, _, rngC_at h, by rw [e2]; exact .int _⟩
theorem rgC_pos {i j c : Int} (hi : 0 ≤ i) (hi' : i < 2 ^ 60) (hj : i < j) (hj' : j < 2 ^ 60) (hc : 0 < c) (hc' : c < 1000000000) : RgC i j c ((j - i - 1) / c + 1).toNat := by
  have d0 : 0 ≤ (j - i - 1) / c := Int.ediv_nonneg (by omega) (by omega)
  have d1 : (j - i - 1) / c ≤ j - i - 1 := Int.ediv_le_self _ (by omega)
  have e : Builtin.Range.rangeSize i j c = (j - i - 1) / c + 1 := by
    unfold Builtin.Range.rangeSize
    rw [if_pos hc, if_pos hj]
  refine ⟨by omega, by omega, ?_, by rw [e]; omega⟩
  unfold Builtin.Range.small
  rw [e]
  have m1 : (j - i - 1) / c * c ≤ j - i - 1 := Int.ediv_mul_le _ (by omega)
  simp only [Builtin.Range.rangeFitsLong, Bool.and_eq_true, Bool.or_eq_true, decide_eq_true_eq, beq_iff_eq, hc, if_true]
  grind
theorem di_range3 {R : List D → Prop} (h : DA K b ρ tr fun l => ∃ i j c : Int, l = [.int i, .int j, .int c] ∧ 0 ≤ i ∧ i < 2 ^ 60 ∧ i < j ∧ j < 2 ^ 60 ∧ 0 < c ∧ c < 1000000000 ∧ R (rngC i c ((j - i - 1) / c + 1).toNat)) : DI K b ρ (iRng3 tr) R := fun Hf H σ k fr c => by
  refine h Hf H σ _ fr fun vs ds Hf1 H1 e1 f1 r1 ⟨i, j, s, e, l1, l2, l3, l4, l5, l6, q⟩ => ?_
  subst e
  cases r1 with
  | cons q1 r1 =>
    cases r1 with
    | cons q2 r1 =>
      cases r1 with
      | cons q3 r1 =>
        cases r1
        have e := q1.int_inv
        subst e
        have e := q2.int_inv
        subst e
        have e := q3.int_inv
        subst e
        exact ⟨i, j, s, _, rfl, rgC_pos l1 l2 l3 l4 l5 l6, c _ _ Hf1 H1 e1 f1 itd_rangeC q⟩
end
end G

set_option Elab.async false
set_option linter.all false
set_option maxRecDepth 100000
set_option maxHeartbeats 4000000
/-! DTwo: max and min of two ints; a list of ints != []. -/
namespace G
open PySem PySem.Spec PyProof.Rows L2
section
variable {K : PySem.W.Frag} {b : Bs} {ρ : List Sl} {ta tb te tc : TE} {tr : TA} {Q : D → Prop} {Hf H : Hp} {σ : L2.St} {nx bk ct : List Sl → Prop} {rt : D → Prop}
theorem de_max2 (h : DE K b ρ ta fun x => DE K b ρ tb fun y => ∃ i j : Int, x = .int i ∧ y = .int j ∧ Q (.int (if j > i then j else i))) : DE K b ρ (tCB (fun xs H Q => ∃ i j, xs = [.int i, .int j] ∧ Q (.int (if j > i then j else i)) H) (tCons ta (tCons tb tNil))) Q :=
  de_cb (da_cons (h.imp fun x hx => da_cons (hx.imp fun y ⟨i, j, e1, e2, q⟩ => da_nil fun Hf H σ k vs f rr c => by
    subst e1; subst e2
    cases rr with
    | cons r1 rr =>
      cases rr with
      | cons r2 rr =>
        cases rr
        have a := r1.int_inv; subst a
        have a := r2.int_inv; subst a
        exact ⟨i, j, rfl, c _ _ Hf H Up.refl f (.int _) q⟩)))
theorem de_min2 (h : DE K b ρ ta fun x => DE K b ρ tb fun y => ∃ i j : Int, x = .int i ∧ y = .int j ∧ Q (.int (if j < i then j else i))) : DE K b ρ (tCB (fun xs H Q => ∃ i j, xs = [.int i, .int j] ∧ Q (.int (if j < i then j else i)) H) (tCons ta (tCons tb tNil))) Q :=
  de_cb (da_cons (h.imp fun x hx => da_cons (hx.imp fun y ⟨i, j, e1, e2, q⟩ => da_nil fun Hf H σ k vs f rr c => by
    subst e1; subst e2
    cases rr with
    | cons r1 rr =>
      cases rr with
      | cons r2 rr =>
        cases rr
        have a := r1.int_inv; subst a
        have a := r2.int_inv; subst a
        exact ⟨i, j, rfl, c _ _ Hf H Up.refl f (.int _) q⟩)))
theorem OdL.ints : ∀ {l : List D}, (∀ d ∈ l, ∃ i, d = .int i) → OdL 0 l
  | [], _ => .nil
  | d :: l, h => by
    obtain ⟨i, rfl⟩ := h d List.mem_cons_self
    exact .cons .int (OdL.ints fun d hd => h d (List.mem_cons_of_mem _ hd))
theorem eqD_nil (l : List D) : eqD (.lst l) (.lst []) = l.isEmpty := by
  cases l <;> simp [eqD, D.py, D.pyL, PyData.eqv, PyData.eqvAll]
/-- of ints: != [] -/
theorem de_neNil (h : DE K b ρ ta fun x => DE K b ρ tb fun y => ∃ l, x = .lst l ∧ y = .lst [] ∧ (∀ d ∈ l, ∃ i, d = .int i) ∧ Q (.bl (!l.isEmpty))) : DE K b ρ (tOp (rNeG K) ta tb) Q :=
  de_neA (h.imp fun x hx => hx.imp fun y ⟨l, e1, e2, hl, q⟩ => by
    subst e1; subst e2
    refine ⟨(OdL.ints hl).lst.ok (by decide), (OdL.lst (n := 0) .nil).ok (by decide), ?_⟩
    rw [eqD_nil]
    exact q)
end
end G

set_option Elab.async false
set_option linter.all false
set_option maxRecDepth 100000
set_option maxHeartbeats 4000000
namespace Law
open PySem PySem.Spec PyProof.Rows L2 G
def top (i : Nat) : Stmt := PySem.Challenge.pw_genuspapers_k11_whole_marks_and_sums.main.body.getD i (.Pass ⟨0, 0, 0, 0⟩)
abbrev s_is_integer : Stmt := top 20
abbrev nm_is_integer : List Str := (["value"] : List Str)
theorem sc_is_integer : FnScope nm_is_integer (["value"] : List Str) (defScope s_is_integer) := ⟨rfl, rfl, rfl, by decide +kernel, rfl, by decide +kernel, by decide +kernel⟩
abbrev s_pair : Stmt := top 21
abbrev nm_pair : List Str := (["number"] : List Str)
theorem sc_pair : FnScope nm_pair (["number"] : List Str) (defScope s_pair) := ⟨rfl, rfl, rfl, by decide +kernel, rfl, by decide +kernel, by decide +kernel⟩
abbrev s_in_lowest : Stmt := top 22
abbrev nm_in_lowest : List Str := (["top", "bottom", "by"] : List Str)
theorem sc_in_lowest : FnScope nm_in_lowest (["top", "bottom"] : List Str) (defScope s_in_lowest) := ⟨rfl, rfl, rfl, by decide +kernel, rfl, by decide +kernel, by decide +kernel⟩
abbrev s_added : Stmt := top 23
abbrev nm_added : List Str := (["one", "other", "top", "bottom", "high", "low"] : List Str)
theorem sc_added : FnScope nm_added (["one", "other"] : List Str) (defScope s_added) := ⟨rfl, rfl, rfl, by decide +kernel, rfl, by decide +kernel, by decide +kernel⟩
abbrev s_opposite : Stmt := top 24
abbrev nm_opposite : List Str := (["number"] : List Str)
theorem sc_opposite : FnScope nm_opposite (["number"] : List Str) (defScope s_opposite) := ⟨rfl, rfl, rfl, by decide +kernel, rfl, by decide +kernel, by decide +kernel⟩
abbrev s_divided : Stmt := top 25
abbrev nm_divided : List Str := (["one", "other", "top", "bottom", "high", "low"] : List Str)
theorem sc_divided : FnScope nm_divided (["one", "other"] : List Str) (defScope s_divided) := ⟨rfl, rfl, rfl, by decide +kernel, rfl, by decide +kernel, by decide +kernel⟩
abbrev s_less_by : Stmt := top 26
abbrev nm_less_by : List Str := (["one", "other"] : List Str)
theorem sc_less_by : FnScope nm_less_by (["one", "other"] : List Str) (defScope s_less_by) := ⟨rfl, rfl, rfl, by decide +kernel, rfl, by decide +kernel, by decide +kernel⟩
abbrev s_sign_by : Stmt := top 28
abbrev nm_sign_by : List Str := (["ratio", "p", "top", "bottom", "number", "times", "found"] : List Str)
theorem sc_sign_by : FnScope nm_sign_by (["ratio", "p"] : List Str) (defScope s_sign_by) := ⟨rfl, rfl, rfl, by decide +kernel, rfl, by decide +kernel, by decide +kernel⟩
abbrev s_primes_of : Stmt := top 29
abbrev nm_primes_of : List Str := (["number", "found", "d"] : List Str)
theorem sc_primes_of : FnScope nm_primes_of (["number"] : List Str) (defScope s_primes_of) := ⟨rfl, rfl, rfl, by decide +kernel, rfl, by decide +kernel, by decide +kernel⟩
abbrev s_free_of_squares : Stmt := top 33
abbrev nm_free_of_squares : List Str := (["number", "found", "p", "times"] : List Str)
theorem sc_free_of_squares : FnScope nm_free_of_squares (["number"] : List Str) (defScope s_free_of_squares) := ⟨rfl, rfl, rfl, by decide +kernel, rfl, by decide +kernel, by decide +kernel⟩
abbrev s_fundamental_by : Stmt := top 34
abbrev nm_fundamental_by : List Str := (["number", "found"] : List Str)
theorem sc_fundamental_by : FnScope nm_fundamental_by (["number"] : List Str) (defScope s_fundamental_by) := ⟨rfl, rfl, rfl, by decide +kernel, rfl, by decide +kernel, by decide +kernel⟩
abbrev s_fundamental_of : Stmt := top 35
abbrev nm_fundamental_of : List Str := (["number"] : List Str)
theorem sc_fundamental_of : FnScope nm_fundamental_of (["number"] : List Str) (defScope s_fundamental_of) := ⟨rfl, rfl, rfl, by decide +kernel, rfl, by decide +kernel, by decide +kernel⟩
abbrev s_need_mark : Stmt := top 36
abbrev nm_need_mark : List Str := (["D"] : List Str)
theorem sc_need_mark : FnScope nm_need_mark (["D"] : List Str) (defScope s_need_mark) := ⟨rfl, rfl, rfl, by decide +kernel, rfl, by decide +kernel, by decide +kernel⟩
abbrev s_prime_mark : Stmt := top 37
abbrev nm_prime_mark : List Str := (["D", "p"] : List Str)
theorem sc_prime_mark : FnScope nm_prime_mark (["D", "p"] : List Str) (defScope s_prime_mark) := ⟨rfl, rfl, rfl, by decide +kernel, rfl, by decide +kernel, by decide +kernel⟩
abbrev s_mark_by : Stmt := top 38
abbrev nm_mark_by : List Str := (["D", "number", "found", "p"] : List Str)
theorem sc_mark_by : FnScope nm_mark_by (["D", "number"] : List Str) (defScope s_mark_by) := ⟨rfl, rfl, rfl, by decide +kernel, rfl, by decide +kernel, by decide +kernel⟩
abbrev s_mark_of : Stmt := top 39
abbrev nm_mark_of : List Str := (["D", "number"] : List Str)
theorem sc_mark_of : FnScope nm_mark_of (["D", "number"] : List Str) (defScope s_mark_of) := ⟨rfl, rfl, rfl, by decide +kernel, rfl, by decide +kernel, by decide +kernel⟩
abbrev s_marks_to : Stmt := top 40
abbrev nm_marks_to : List Str := (["D", "most", "marks", "least", "number", "k", "p"] : List Str)
theorem sc_marks_to : FnScope nm_marks_to (["D", "most"] : List Str) (defScope s_marks_to) := ⟨rfl, rfl, rfl, by decide +kernel, rfl, by decide +kernel, by decide +kernel⟩
abbrev s_bernoulli_by : Stmt := top 41
abbrev nm_bernoulli_by : List Str := (["D", "k", "size", "marks", "first", "a", "second", "third"] : List Str)
theorem sc_bernoulli_by : FnScope nm_bernoulli_by (["D", "k"] : List Str) (defScope s_bernoulli_by) := ⟨rfl, rfl, rfl, by decide +kernel, rfl, by decide +kernel, by decide +kernel⟩
abbrev s_bernoulli_of : Stmt := top 42
abbrev nm_bernoulli_of : List Str := (["D", "k"] : List Str)
theorem sc_bernoulli_of : FnScope nm_bernoulli_of (["D", "k"] : List Str) (defScope s_bernoulli_of) := ⟨rfl, rfl, rfl, by decide +kernel, rfl, by decide +kernel, by decide +kernel⟩
abbrev s__law_pen : Stmt := top 44
abbrev nm__law_pen : List Str := (["script", "fold", "cell"] : List Str)
theorem sc__law_pen : FnScope nm__law_pen (["script"] : List Str) (defScope s__law_pen) := ⟨rfl, rfl, rfl, by decide +kernel, rfl, by decide +kernel, by decide +kernel⟩
abbrev s__law_draw : Stmt := top 45
abbrev nm__law_draw : List Str := (["pen", "many", "cell", "digit", "blend"] : List Str)
theorem sc__law_draw : FnScope nm__law_draw (["pen", "many"] : List Str) (defScope s__law_draw) := ⟨rfl, rfl, rfl, by decide +kernel, rfl, by decide +kernel, by decide +kernel⟩
abbrev s__law_pick : Stmt := top 46
abbrev nm__law_pick : List Str := (["pen", "some"] : List Str)
theorem sc__law_pick : FnScope nm__law_pick (["pen", "some"] : List Str) (defScope s__law_pick) := ⟨rfl, rfl, rfl, by decide +kernel, rfl, by decide +kernel, by decide +kernel⟩
abbrev s__law_is : Stmt := top 47
abbrev nm__law_is : List Str := (["told", "due", "at"] : List Str)
theorem sc__law_is : FnScope nm__law_is (["told", "due"] : List Str) (defScope s__law_is) := ⟨rfl, rfl, rfl, by decide +kernel, rfl, by decide +kernel, by decide +kernel⟩
abbrev s__law_divisor : Stmt := top 48
abbrev nm__law_divisor : List Str := (["one", "other"] : List Str)
theorem sc__law_divisor : FnScope nm__law_divisor (["one", "other"] : List Str) (defScope s__law_divisor) := ⟨rfl, rfl, rfl, by decide +kernel, rfl, by decide +kernel, by decide +kernel⟩
abbrev s__law_low : Stmt := top 49
abbrev nm__law_low : List Str := (["top", "bottom", "by"] : List Str)
theorem sc__law_low : FnScope nm__law_low (["top", "bottom"] : List Str) (defScope s__law_low) := ⟨rfl, rfl, rfl, by decide +kernel, rfl, by decide +kernel, by decide +kernel⟩
abbrev s__law_pair : Stmt := top 50
abbrev nm__law_pair : List Str := (["number"] : List Str)
theorem sc__law_pair : FnScope nm__law_pair (["number"] : List Str) (defScope s__law_pair) := ⟨rfl, rfl, rfl, by decide +kernel, rfl, by decide +kernel, by decide +kernel⟩
abbrev s__law_plus : Stmt := top 51
abbrev nm__law_plus : List Str := (["one", "other", "first", "second"] : List Str)
theorem sc__law_plus : FnScope nm__law_plus (["one", "other"] : List Str) (defScope s__law_plus) := ⟨rfl, rfl, rfl, by decide +kernel, rfl, by decide +kernel, by decide +kernel⟩
abbrev s__law_opposite : Stmt := top 52
abbrev nm__law_opposite : List Str := (["number"] : List Str)
theorem sc__law_opposite : FnScope nm__law_opposite (["number"] : List Str) (defScope s__law_opposite) := ⟨rfl, rfl, rfl, by decide +kernel, rfl, by decide +kernel, by decide +kernel⟩
abbrev s__law_minus : Stmt := top 53
abbrev nm__law_minus : List Str := (["one", "other"] : List Str)
theorem sc__law_minus : FnScope nm__law_minus (["one", "other"] : List Str) (defScope s__law_minus) := ⟨rfl, rfl, rfl, by decide +kernel, rfl, by decide +kernel, by decide +kernel⟩
abbrev s__law_fault : Stmt := top 54
abbrev nm__law_fault : List Str := (["call", "found", "e"] : List Str)
theorem sc__law_fault : FnScope nm__law_fault (["call"] : List Str) (defScope s__law_fault) := ⟨rfl, rfl, rfl, by decide +kernel, rfl, by decide +kernel, by decide +kernel⟩
abbrev s__law_kinds : Stmt := top 55
abbrev nm__law_kinds : List Str := (["e", "found"] : List Str)
theorem sc__law_kinds : FnScope nm__law_kinds (["e"] : List Str) (defScope s__law_kinds) := ⟨rfl, rfl, rfl, by decide +kernel, rfl, by decide +kernel, by decide +kernel⟩
abbrev s__law_more_kinds : Stmt := top 56
abbrev nm__law_more_kinds : List Str := (["e", "found"] : List Str)
theorem sc__law_more_kinds : FnScope nm__law_more_kinds (["e"] : List Str) (defScope s__law_more_kinds) := ⟨rfl, rfl, rfl, by decide +kernel, rfl, by decide +kernel, by decide +kernel⟩
abbrev s__law_times_in : Stmt := top 57
abbrev nm__law_times_in : List Str := (["number", "p", "count"] : List Str)
theorem sc__law_times_in : FnScope nm__law_times_in (["number", "p"] : List Str) (defScope s__law_times_in) := ⟨rfl, rfl, rfl, by decide +kernel, rfl, by decide +kernel, by decide +kernel⟩
abbrev s__law_primes_in : Stmt := top 58
abbrev nm__law_primes_in : List Str := (["number", "found", "d"] : List Str)
theorem sc__law_primes_in : FnScope nm__law_primes_in (["number"] : List Str) (defScope s__law_primes_in) := ⟨rfl, rfl, rfl, by decide +kernel, rfl, by decide +kernel, by decide +kernel⟩
abbrev s__law_square_sign : Stmt := top 59
abbrev nm__law_square_sign : List Str := (["number", "p", "x"] : List Str)
theorem sc__law_square_sign : FnScope nm__law_square_sign (["number", "p"] : List Str) (defScope s__law_square_sign) := ⟨rfl, rfl, rfl, by decide +kernel, rfl, by decide +kernel, by decide +kernel⟩
abbrev s__law_fundamental : Stmt := top 60
abbrev nm__law_fundamental : List Str := (["number", "sign", "left", "k"] : List Str)
theorem sc__law_fundamental : FnScope nm__law_fundamental (["number"] : List Str) (defScope s__law_fundamental) := ⟨rfl, rfl, rfl, by decide +kernel, rfl, by decide +kernel, by decide +kernel⟩
abbrev s__law_mark : Stmt := top 61
abbrev nm__law_mark : List Str := (["d", "number", "found", "p", "lap"] : List Str)
theorem sc__law_mark : FnScope nm__law_mark (["d", "number"] : List Str) (defScope s__law_mark) := ⟨rfl, rfl, rfl, by decide +kernel, rfl, by decide +kernel, by decide +kernel⟩
abbrev s__law_drawn_base : Stmt := top 62
abbrev nm__law_drawn_base : List Str := (["pen"] : List Str)
theorem sc__law_drawn_base : FnScope nm__law_drawn_base (["pen"] : List Str) (defScope s__law_drawn_base) := ⟨rfl, rfl, rfl, by decide +kernel, rfl, by decide +kernel, by decide +kernel⟩
abbrev s__law_sum : Stmt := top 63
abbrev nm__law_sum : List Str := (["d", "k", "size", "marks", "a", "first", "second"] : List Str)
theorem sc__law_sum : FnScope nm__law_sum (["d", "k"] : List Str) (defScope s__law_sum) := ⟨rfl, rfl, rfl, by decide +kernel, rfl, by decide +kernel, by decide +kernel⟩
abbrev s__law_classes : Stmt := top 64
abbrev nm__law_classes : List Str := (["d", "count", "b", "product", "a"] : List Str)
theorem sc__law_classes : FnScope nm__law_classes (["d"] : List Str) (defScope s__law_classes) := ⟨rfl, rfl, rfl, by decide +kernel, rfl, by decide +kernel, by decide +kernel⟩
abbrev s__law_refused : Stmt := top 65
abbrev nm__law_refused : List Str := (["pen", "d", "bad", "odd", "lost", "told", "wrong", "first"] : List Str)
theorem sc__law_refused : FnScope nm__law_refused (["pen", "d"] : List Str) (defScope s__law_refused) := ⟨rfl, rfl, rfl, by decide +kernel, rfl, by decide +kernel, by decide +kernel⟩
abbrev s_law : Stmt := top 66
abbrev nm_law : List Str := (["script", "pen", "lap", "d", "number", "square", "one", "other", "k", "due"] : List Str)
theorem sc_law : FnScope nm_law (["script"] : List Str) (defScope s_law) := ⟨rfl, rfl, rfl, by decide +kernel, rfl, by decide +kernel, by decide +kernel⟩
abbrev s_BadNumber_init : Stmt := inClass (top 3) 0
abbrev nm_BadNumber_init : List Str := (["self", "what", "number"] : List Str)
theorem sc_BadNumber_init : FnScope nm_BadNumber_init (["self", "what", "number"] : List Str) (defScope s_BadNumber_init) := ⟨rfl, rfl, rfl, by decide +kernel, rfl, by decide +kernel, by decide +kernel⟩
abbrev s_BadRow_init : Stmt := inClass (top 4) 0
abbrev nm_BadRow_init : List Str := (["self", "what", "row"] : List Str)
theorem sc_BadRow_init : FnScope nm_BadRow_init (["self", "what", "row"] : List Str) (defScope s_BadRow_init) := ⟨rfl, rfl, rfl, by decide +kernel, rfl, by decide +kernel, by decide +kernel⟩
abbrev s_BadTable_init : Stmt := inClass (top 5) 0
abbrev nm_BadTable_init : List Str := (["self", "what"] : List Str)
theorem sc_BadTable_init : FnScope nm_BadTable_init (["self", "what"] : List Str) (defScope s_BadTable_init) := ⟨rfl, rfl, rfl, by decide +kernel, rfl, by decide +kernel, by decide +kernel⟩
abbrev s_BadForm_init : Stmt := inClass (top 6) 0
abbrev nm_BadForm_init : List Str := (["self", "what"] : List Str)
theorem sc_BadForm_init : FnScope nm_BadForm_init (["self", "what"] : List Str) (defScope s_BadForm_init) := ⟨rfl, rfl, rfl, by decide +kernel, rfl, by decide +kernel, by decide +kernel⟩
abbrev s_BadBook_init : Stmt := inClass (top 7) 0
abbrev nm_BadBook_init : List Str := (["self", "what"] : List Str)
theorem sc_BadBook_init : FnScope nm_BadBook_init (["self", "what"] : List Str) (defScope s_BadBook_init) := ⟨rfl, rfl, rfl, by decide +kernel, rfl, by decide +kernel, by decide +kernel⟩
abbrev s_BadName_init : Stmt := inClass (top 8) 0
abbrev nm_BadName_init : List Str := (["self", "name"] : List Str)
theorem sc_BadName_init : FnScope nm_BadName_init (["self", "name"] : List Str) (defScope s_BadName_init) := ⟨rfl, rfl, rfl, by decide +kernel, rfl, by decide +kernel, by decide +kernel⟩
abbrev s_BadText_init : Stmt := inClass (top 9) 0
abbrev nm_BadText_init : List Str := (["self", "line", "word"] : List Str)
theorem sc_BadText_init : FnScope nm_BadText_init (["self", "line", "word"] : List Str) (defScope s_BadText_init) := ⟨rfl, rfl, rfl, by decide +kernel, rfl, by decide +kernel, by decide +kernel⟩
abbrev s_NoPlace_init : Stmt := inClass (top 10) 0
abbrev nm_NoPlace_init : List Str := (["self", "what", "index"] : List Str)
theorem sc_NoPlace_init : FnScope nm_NoPlace_init (["self", "what", "index"] : List Str) (defScope s_NoPlace_init) := ⟨rfl, rfl, rfl, by decide +kernel, rfl, by decide +kernel, by decide +kernel⟩
abbrev s_NoName_init : Stmt := inClass (top 11) 0
abbrev nm_NoName_init : List Str := (["self", "name"] : List Str)
theorem sc_NoName_init : FnScope nm_NoName_init (["self", "name"] : List Str) (defScope s_NoName_init) := ⟨rfl, rfl, rfl, by decide +kernel, rfl, by decide +kernel, by decide +kernel⟩
abbrev s_TakenName_init : Stmt := inClass (top 12) 0
abbrev nm_TakenName_init : List Str := (["self", "name"] : List Str)
theorem sc_TakenName_init : FnScope nm_TakenName_init (["self", "name"] : List Str) (defScope s_TakenName_init) := ⟨rfl, rfl, rfl, by decide +kernel, rfl, by decide +kernel, by decide +kernel⟩
abbrev s_Unlike_init : Stmt := inClass (top 13) 0
abbrev nm_Unlike_init : List Str := (["self", "what"] : List Str)
theorem sc_Unlike_init : FnScope nm_Unlike_init (["self", "what"] : List Str) (defScope s_Unlike_init) := ⟨rfl, rfl, rfl, by decide +kernel, rfl, by decide +kernel, by decide +kernel⟩
abbrev s_NotThere_init : Stmt := inClass (top 14) 0
abbrev nm_NotThere_init : List Str := (["self", "paper"] : List Str)
theorem sc_NotThere_init : FnScope nm_NotThere_init (["self", "paper"] : List Str) (defScope s_NotThere_init) := ⟨rfl, rfl, rfl, by decide +kernel, rfl, by decide +kernel, by decide +kernel⟩
abbrev s_TooMany_init : Stmt := inClass (top 15) 0
abbrev nm_TooMany_init : List Str := (["self", "what", "many", "limit"] : List Str)
theorem sc_TooMany_init : FnScope nm_TooMany_init (["self", "what", "many", "limit"] : List Str) (defScope s_TooMany_init) := ⟨rfl, rfl, rfl, by decide +kernel, rfl, by decide +kernel, by decide +kernel⟩
abbrev s_NotKept_init : Stmt := inClass (top 16) 0
abbrev nm_NotKept_init : List Str := (["self", "promise", "witness"] : List Str)
theorem sc_NotKept_init : FnScope nm_NotKept_init (["self", "promise", "witness"] : List Str) (defScope s_NotKept_init) := ⟨rfl, rfl, rfl, by decide +kernel, rfl, by decide +kernel, by decide +kernel⟩
structure Ad where
  f_is_integer : Addr
  d_is_integer : FuncData
  f_pair : Addr
  d_pair : FuncData
  f_in_lowest : Addr
  d_in_lowest : FuncData
  f_added : Addr
  d_added : FuncData
  f_opposite : Addr
  d_opposite : FuncData
  f_divided : Addr
  d_divided : FuncData
  f_less_by : Addr
  d_less_by : FuncData
  f_sign_by : Addr
  d_sign_by : FuncData
  f_primes_of : Addr
  d_primes_of : FuncData
  f_free_of_squares : Addr
  d_free_of_squares : FuncData
  f_fundamental_by : Addr
  d_fundamental_by : FuncData
  f_fundamental_of : Addr
  d_fundamental_of : FuncData
  f_need_mark : Addr
  d_need_mark : FuncData
  f_prime_mark : Addr
  d_prime_mark : FuncData
  f_mark_by : Addr
  d_mark_by : FuncData
  f_mark_of : Addr
  d_mark_of : FuncData
  f_marks_to : Addr
  d_marks_to : FuncData
  f_bernoulli_by : Addr
  d_bernoulli_by : FuncData
  f_bernoulli_of : Addr
  d_bernoulli_of : FuncData
  f__law_pen : Addr
  d__law_pen : FuncData
  f__law_draw : Addr
  d__law_draw : FuncData
  f__law_pick : Addr
  d__law_pick : FuncData
  f__law_is : Addr
  d__law_is : FuncData
  f__law_divisor : Addr
  d__law_divisor : FuncData
  f__law_low : Addr
  d__law_low : FuncData
  f__law_pair : Addr
  d__law_pair : FuncData
  f__law_plus : Addr
  d__law_plus : FuncData
  f__law_opposite : Addr
  d__law_opposite : FuncData
  f__law_minus : Addr
  d__law_minus : FuncData
  f__law_fault : Addr
  d__law_fault : FuncData
  f__law_kinds : Addr
  d__law_kinds : FuncData
  f__law_more_kinds : Addr
  d__law_more_kinds : FuncData
  f__law_times_in : Addr
  d__law_times_in : FuncData
  f__law_primes_in : Addr
  d__law_primes_in : FuncData
  f__law_square_sign : Addr
  d__law_square_sign : FuncData
  f__law_fundamental : Addr
  d__law_fundamental : FuncData
  f__law_mark : Addr
  d__law_mark : FuncData
  f__law_drawn_base : Addr
  d__law_drawn_base : FuncData
  f__law_sum : Addr
  d__law_sum : FuncData
  f__law_classes : Addr
  d__law_classes : FuncData
  f__law_refused : Addr
  d__law_refused : FuncData
  f_law : Addr
  d_law : FuncData
  cc__law_refused : Addr
  tb__law_refused : Addr
  c_GenusError : Addr
  c_BadNumber : Addr
  i_BadNumber : Addr
  di_BadNumber : FuncData
  c_BadRow : Addr
  i_BadRow : Addr
  di_BadRow : FuncData
  c_BadTable : Addr
  i_BadTable : Addr
  di_BadTable : FuncData
  c_BadForm : Addr
  i_BadForm : Addr
  di_BadForm : FuncData
  c_BadBook : Addr
  i_BadBook : Addr
  di_BadBook : FuncData
  c_BadName : Addr
  i_BadName : Addr
  di_BadName : FuncData
  c_BadText : Addr
  i_BadText : Addr
  di_BadText : FuncData
  c_NoPlace : Addr
  i_NoPlace : Addr
  di_NoPlace : FuncData
  c_NoName : Addr
  i_NoName : Addr
  di_NoName : FuncData
  c_TakenName : Addr
  i_TakenName : Addr
  di_TakenName : FuncData
  c_Unlike : Addr
  i_Unlike : Addr
  di_Unlike : FuncData
  c_NotThere : Addr
  i_NotThere : Addr
  di_NotThere : FuncData
  c_TooMany : Addr
  i_TooMany : Addr
  di_TooMany : FuncData
  c_NotKept : Addr
  i_NotKept : Addr
  di_NotKept : FuncData
  c_NothingToUndo : Addr
  c_NothingToRedo : Addr
def tbs (a : Ad) : List (Addr × Addr) := [(a.cc__law_refused, a.tb__law_refused)]
def tbq (a : Ad) : List (Addr × Str) := [(a.tb__law_refused, ("_law_refused" : Str) ++ ".<locals>." ++ "<lambda>")]
structure Tx (K : PySem.W.Frag) (mg : Str → Option Value) (a : Ad) : Prop where
  F_is_integer : Fun K "is_integer" "is_integer" s_is_integer a.f_is_integer a.d_is_integer
  g_is_integer : mg "is_integer" = some (.ref a.f_is_integer)
  b_is_integer : L2.Binds K a.d_is_integer (["value"] : List Str) []
  F_pair : Fun K "pair" "pair" s_pair a.f_pair a.d_pair
  g_pair : mg "pair" = some (.ref a.f_pair)
  b_pair : L2.Binds K a.d_pair (["number"] : List Str) []
  F_in_lowest : Fun K "in_lowest" "in_lowest" s_in_lowest a.f_in_lowest a.d_in_lowest
  g_in_lowest : mg "in_lowest" = some (.ref a.f_in_lowest)
  b_in_lowest : L2.Binds K a.d_in_lowest (["top", "bottom"] : List Str) []
  F_added : Fun K "added" "added" s_added a.f_added a.d_added
  g_added : mg "added" = some (.ref a.f_added)
  b_added : L2.Binds K a.d_added (["one", "other"] : List Str) []
  F_opposite : Fun K "opposite" "opposite" s_opposite a.f_opposite a.d_opposite
  g_opposite : mg "opposite" = some (.ref a.f_opposite)
  b_opposite : L2.Binds K a.d_opposite (["number"] : List Str) []
  F_divided : Fun K "divided" "divided" s_divided a.f_divided a.d_divided
  g_divided : mg "divided" = some (.ref a.f_divided)
  b_divided : L2.Binds K a.d_divided (["one", "other"] : List Str) []
  F_less_by : Fun K "less_by" "less_by" s_less_by a.f_less_by a.d_less_by
  g_less_by : mg "less_by" = some (.ref a.f_less_by)
  b_less_by : L2.Binds K a.d_less_by (["one", "other"] : List Str) []
  F_sign_by : Fun K "sign_by" "sign_by" s_sign_by a.f_sign_by a.d_sign_by
  g_sign_by : mg "sign_by" = some (.ref a.f_sign_by)
  b_sign_by : L2.Binds K a.d_sign_by (["ratio", "p"] : List Str) []
  F_primes_of : Fun K "primes_of" "primes_of" s_primes_of a.f_primes_of a.d_primes_of
  g_primes_of : mg "primes_of" = some (.ref a.f_primes_of)
  b_primes_of : L2.Binds K a.d_primes_of (["number"] : List Str) []
  F_free_of_squares : Fun K "free_of_squares" "free_of_squares" s_free_of_squares a.f_free_of_squares a.d_free_of_squares
  g_free_of_squares : mg "free_of_squares" = some (.ref a.f_free_of_squares)
  b_free_of_squares : L2.Binds K a.d_free_of_squares (["number"] : List Str) []
  F_fundamental_by : Fun K "fundamental_by" "fundamental_by" s_fundamental_by a.f_fundamental_by a.d_fundamental_by
  g_fundamental_by : mg "fundamental_by" = some (.ref a.f_fundamental_by)
  b_fundamental_by : L2.Binds K a.d_fundamental_by (["number"] : List Str) []
  F_fundamental_of : Fun K "fundamental_of" "fundamental_of" s_fundamental_of a.f_fundamental_of a.d_fundamental_of
  g_fundamental_of : mg "fundamental_of" = some (.ref a.f_fundamental_of)
  b_fundamental_of : L2.Binds K a.d_fundamental_of (["number"] : List Str) []
  F_need_mark : Fun K "need_mark" "need_mark" s_need_mark a.f_need_mark a.d_need_mark
  g_need_mark : mg "need_mark" = some (.ref a.f_need_mark)
  b_need_mark : L2.Binds K a.d_need_mark (["D"] : List Str) []
  F_prime_mark : Fun K "prime_mark" "prime_mark" s_prime_mark a.f_prime_mark a.d_prime_mark
  g_prime_mark : mg "prime_mark" = some (.ref a.f_prime_mark)
  b_prime_mark : L2.Binds K a.d_prime_mark (["D", "p"] : List Str) []
  F_mark_by : Fun K "mark_by" "mark_by" s_mark_by a.f_mark_by a.d_mark_by
  g_mark_by : mg "mark_by" = some (.ref a.f_mark_by)
  b_mark_by : L2.Binds K a.d_mark_by (["D", "number"] : List Str) []
  F_mark_of : Fun K "mark_of" "mark_of" s_mark_of a.f_mark_of a.d_mark_of
  g_mark_of : mg "mark_of" = some (.ref a.f_mark_of)
  b_mark_of : L2.Binds K a.d_mark_of (["D", "number"] : List Str) []
  F_marks_to : Fun K "marks_to" "marks_to" s_marks_to a.f_marks_to a.d_marks_to
  g_marks_to : mg "marks_to" = some (.ref a.f_marks_to)
  b_marks_to : L2.Binds K a.d_marks_to (["D", "most"] : List Str) []
  F_bernoulli_by : Fun K "bernoulli_by" "bernoulli_by" s_bernoulli_by a.f_bernoulli_by a.d_bernoulli_by
  g_bernoulli_by : mg "bernoulli_by" = some (.ref a.f_bernoulli_by)
  b_bernoulli_by : L2.Binds K a.d_bernoulli_by (["D", "k"] : List Str) []
  F_bernoulli_of : Fun K "bernoulli_of" "bernoulli_of" s_bernoulli_of a.f_bernoulli_of a.d_bernoulli_of
  g_bernoulli_of : mg "bernoulli_of" = some (.ref a.f_bernoulli_of)
  b_bernoulli_of : L2.Binds K a.d_bernoulli_of (["D", "k"] : List Str) []
  F__law_pen : Fun K "_law_pen" "_law_pen" s__law_pen a.f__law_pen a.d__law_pen
  g__law_pen : mg "_law_pen" = some (.ref a.f__law_pen)
  b__law_pen : L2.Binds K a.d__law_pen (["script"] : List Str) []
  F__law_draw : Fun K "_law_draw" "_law_draw" s__law_draw a.f__law_draw a.d__law_draw
  g__law_draw : mg "_law_draw" = some (.ref a.f__law_draw)
  b__law_draw : L2.Binds K a.d__law_draw (["pen", "many"] : List Str) []
  F__law_pick : Fun K "_law_pick" "_law_pick" s__law_pick a.f__law_pick a.d__law_pick
  g__law_pick : mg "_law_pick" = some (.ref a.f__law_pick)
  b__law_pick : L2.Binds K a.d__law_pick (["pen", "some"] : List Str) []
  F__law_is : Fun K "_law_is" "_law_is" s__law_is a.f__law_is a.d__law_is
  g__law_is : mg "_law_is" = some (.ref a.f__law_is)
  b__law_is : L2.Binds K a.d__law_is (["told", "due"] : List Str) []
  F__law_divisor : Fun K "_law_divisor" "_law_divisor" s__law_divisor a.f__law_divisor a.d__law_divisor
  g__law_divisor : mg "_law_divisor" = some (.ref a.f__law_divisor)
  b__law_divisor : L2.Binds K a.d__law_divisor (["one", "other"] : List Str) []
  F__law_low : Fun K "_law_low" "_law_low" s__law_low a.f__law_low a.d__law_low
  g__law_low : mg "_law_low" = some (.ref a.f__law_low)
  b__law_low : L2.Binds K a.d__law_low (["top", "bottom"] : List Str) []
  F__law_pair : Fun K "_law_pair" "_law_pair" s__law_pair a.f__law_pair a.d__law_pair
  g__law_pair : mg "_law_pair" = some (.ref a.f__law_pair)
  b__law_pair : L2.Binds K a.d__law_pair (["number"] : List Str) []
  F__law_plus : Fun K "_law_plus" "_law_plus" s__law_plus a.f__law_plus a.d__law_plus
  g__law_plus : mg "_law_plus" = some (.ref a.f__law_plus)
  b__law_plus : L2.Binds K a.d__law_plus (["one", "other"] : List Str) []
  F__law_opposite : Fun K "_law_opposite" "_law_opposite" s__law_opposite a.f__law_opposite a.d__law_opposite
  g__law_opposite : mg "_law_opposite" = some (.ref a.f__law_opposite)
  b__law_opposite : L2.Binds K a.d__law_opposite (["number"] : List Str) []
  F__law_minus : Fun K "_law_minus" "_law_minus" s__law_minus a.f__law_minus a.d__law_minus
  g__law_minus : mg "_law_minus" = some (.ref a.f__law_minus)
  b__law_minus : L2.Binds K a.d__law_minus (["one", "other"] : List Str) []
  F__law_fault : Fun K "_law_fault" "_law_fault" s__law_fault a.f__law_fault a.d__law_fault
  g__law_fault : mg "_law_fault" = some (.ref a.f__law_fault)
  b__law_fault : L2.Binds K a.d__law_fault (["call"] : List Str) []
  F__law_kinds : Fun K "_law_kinds" "_law_kinds" s__law_kinds a.f__law_kinds a.d__law_kinds
  g__law_kinds : mg "_law_kinds" = some (.ref a.f__law_kinds)
  b__law_kinds : L2.Binds K a.d__law_kinds (["e"] : List Str) []
  F__law_more_kinds : Fun K "_law_more_kinds" "_law_more_kinds" s__law_more_kinds a.f__law_more_kinds a.d__law_more_kinds
  g__law_more_kinds : mg "_law_more_kinds" = some (.ref a.f__law_more_kinds)
  b__law_more_kinds : L2.Binds K a.d__law_more_kinds (["e"] : List Str) []
  F__law_times_in : Fun K "_law_times_in" "_law_times_in" s__law_times_in a.f__law_times_in a.d__law_times_in
  g__law_times_in : mg "_law_times_in" = some (.ref a.f__law_times_in)
  b__law_times_in : L2.Binds K a.d__law_times_in (["number", "p"] : List Str) []
  F__law_primes_in : Fun K "_law_primes_in" "_law_primes_in" s__law_primes_in a.f__law_primes_in a.d__law_primes_in
  g__law_primes_in : mg "_law_primes_in" = some (.ref a.f__law_primes_in)
  b__law_primes_in : L2.Binds K a.d__law_primes_in (["number"] : List Str) []
  F__law_square_sign : Fun K "_law_square_sign" "_law_square_sign" s__law_square_sign a.f__law_square_sign a.d__law_square_sign
  g__law_square_sign : mg "_law_square_sign" = some (.ref a.f__law_square_sign)
  b__law_square_sign : L2.Binds K a.d__law_square_sign (["number", "p"] : List Str) []
  F__law_fundamental : Fun K "_law_fundamental" "_law_fundamental" s__law_fundamental a.f__law_fundamental a.d__law_fundamental
  g__law_fundamental : mg "_law_fundamental" = some (.ref a.f__law_fundamental)
  b__law_fundamental : L2.Binds K a.d__law_fundamental (["number"] : List Str) []
  F__law_mark : Fun K "_law_mark" "_law_mark" s__law_mark a.f__law_mark a.d__law_mark
  g__law_mark : mg "_law_mark" = some (.ref a.f__law_mark)
  b__law_mark : L2.Binds K a.d__law_mark (["d", "number"] : List Str) []
  F__law_drawn_base : Fun K "_law_drawn_base" "_law_drawn_base" s__law_drawn_base a.f__law_drawn_base a.d__law_drawn_base
  g__law_drawn_base : mg "_law_drawn_base" = some (.ref a.f__law_drawn_base)
  b__law_drawn_base : L2.Binds K a.d__law_drawn_base (["pen"] : List Str) []
  F__law_sum : Fun K "_law_sum" "_law_sum" s__law_sum a.f__law_sum a.d__law_sum
  g__law_sum : mg "_law_sum" = some (.ref a.f__law_sum)
  b__law_sum : L2.Binds K a.d__law_sum (["d", "k"] : List Str) []
  F__law_classes : Fun K "_law_classes" "_law_classes" s__law_classes a.f__law_classes a.d__law_classes
  g__law_classes : mg "_law_classes" = some (.ref a.f__law_classes)
  b__law_classes : L2.Binds K a.d__law_classes (["d"] : List Str) []
  F__law_refused : Fun K "_law_refused" "_law_refused" s__law_refused a.f__law_refused a.d__law_refused
  g__law_refused : mg "_law_refused" = some (.ref a.f__law_refused)
  b__law_refused : L2.Binds K a.d__law_refused (["pen", "d"] : List Str) []
  F_law : Fun K "law" "law" s_law a.f_law a.d_law
  g_law : mg "law" = some (.ref a.f_law)
  b_law : L2.Binds K a.d_law (["script"] : List Str) []
  n_ValueError : mg "ValueError" = none
  n_abs : mg "abs" = none
  n_bool : mg "bool" = none
  n_int : mg "int" = none
  n_isinstance : mg "isinstance" = none
  n_len : mg "len" = none
  n_list : mg "list" = none
  n_max : mg "max" = none
  n_range : mg "range" = none
  n_repr : mg "repr" = none
  n_str : mg "str" = none
  n_sum : mg "sum" = none
  n_tuple : mg "tuple" = none
  m_gcd : mg "gcd" = some (.builtin "math.gcd")
  cd__law_refused : a.d__law_refused.code = .ref a.cc__law_refused
  tn : ((tbq a).map (·.1)).Nodup
  k_MOST_NUMBER : ∃ t, mg "MOST_NUMBER" = some (.int 1000000000 t)
  k_MOST_MARK : ∃ t, mg "MOST_MARK" = some (.int 50000 t)
  eb : ErrB K
  e_GenusError : ErrK K a.c_GenusError veT
  g_GenusError : mg "GenusError" = some (.ref a.c_GenusError)
  ne : [a.c_GenusError, a.c_BadNumber, a.c_BadRow, a.c_BadTable, a.c_BadForm, a.c_BadBook, a.c_BadName, a.c_BadText, a.c_NoPlace, a.c_NoName, a.c_TakenName, a.c_Unlike, a.c_NotThere, a.c_TooMany, a.c_NotKept, a.c_NothingToUndo, a.c_NothingToRedo].Nodup
  e_BadNumber : ErrK K a.c_BadNumber (.ref a.c_GenusError :: veT)
  g_BadNumber : mg "BadNumber" = some (.ref a.c_BadNumber)
  i_BadNumber : PySem.W.findIn K (.ref a.c_BadNumber) "__init__" = some (some (.ref a.i_BadNumber))
  ti_BadNumber : PySem.W.typeIn K (.ref a.i_BadNumber) = some (.type "function")
  Fi_BadNumber : Fun K "__init__" "BadNumber.__init__" s_BadNumber_init a.i_BadNumber a.di_BadNumber
  bi_BadNumber : L2.Binds K a.di_BadNumber (["self", "what", "number"] : List Str) []
  no_BadNumber_what : PySem.W.findIn K (.ref a.c_BadNumber) "what" = some none
  no_BadNumber_number : PySem.W.findIn K (.ref a.c_BadNumber) "number" = some none
  e_BadRow : ErrK K a.c_BadRow (.ref a.c_GenusError :: veT)
  g_BadRow : mg "BadRow" = some (.ref a.c_BadRow)
  i_BadRow : PySem.W.findIn K (.ref a.c_BadRow) "__init__" = some (some (.ref a.i_BadRow))
  ti_BadRow : PySem.W.typeIn K (.ref a.i_BadRow) = some (.type "function")
  Fi_BadRow : Fun K "__init__" "BadRow.__init__" s_BadRow_init a.i_BadRow a.di_BadRow
  bi_BadRow : L2.Binds K a.di_BadRow (["self", "what", "row"] : List Str) []
  no_BadRow_what : PySem.W.findIn K (.ref a.c_BadRow) "what" = some none
  no_BadRow_row : PySem.W.findIn K (.ref a.c_BadRow) "row" = some none
  e_BadTable : ErrK K a.c_BadTable (.ref a.c_GenusError :: veT)
  g_BadTable : mg "BadTable" = some (.ref a.c_BadTable)
  i_BadTable : PySem.W.findIn K (.ref a.c_BadTable) "__init__" = some (some (.ref a.i_BadTable))
  ti_BadTable : PySem.W.typeIn K (.ref a.i_BadTable) = some (.type "function")
  Fi_BadTable : Fun K "__init__" "BadTable.__init__" s_BadTable_init a.i_BadTable a.di_BadTable
  bi_BadTable : L2.Binds K a.di_BadTable (["self", "what"] : List Str) []
  no_BadTable_what : PySem.W.findIn K (.ref a.c_BadTable) "what" = some none
  e_BadForm : ErrK K a.c_BadForm (.ref a.c_GenusError :: veT)
  g_BadForm : mg "BadForm" = some (.ref a.c_BadForm)
  i_BadForm : PySem.W.findIn K (.ref a.c_BadForm) "__init__" = some (some (.ref a.i_BadForm))
  ti_BadForm : PySem.W.typeIn K (.ref a.i_BadForm) = some (.type "function")
  Fi_BadForm : Fun K "__init__" "BadForm.__init__" s_BadForm_init a.i_BadForm a.di_BadForm
  bi_BadForm : L2.Binds K a.di_BadForm (["self", "what"] : List Str) []
  no_BadForm_what : PySem.W.findIn K (.ref a.c_BadForm) "what" = some none
  e_BadBook : ErrK K a.c_BadBook (.ref a.c_GenusError :: veT)
  g_BadBook : mg "BadBook" = some (.ref a.c_BadBook)
  i_BadBook : PySem.W.findIn K (.ref a.c_BadBook) "__init__" = some (some (.ref a.i_BadBook))
  ti_BadBook : PySem.W.typeIn K (.ref a.i_BadBook) = some (.type "function")
  Fi_BadBook : Fun K "__init__" "BadBook.__init__" s_BadBook_init a.i_BadBook a.di_BadBook
  bi_BadBook : L2.Binds K a.di_BadBook (["self", "what"] : List Str) []
  no_BadBook_what : PySem.W.findIn K (.ref a.c_BadBook) "what" = some none
  e_BadName : ErrK K a.c_BadName (.ref a.c_GenusError :: veT)
  g_BadName : mg "BadName" = some (.ref a.c_BadName)
  i_BadName : PySem.W.findIn K (.ref a.c_BadName) "__init__" = some (some (.ref a.i_BadName))
  ti_BadName : PySem.W.typeIn K (.ref a.i_BadName) = some (.type "function")
  Fi_BadName : Fun K "__init__" "BadName.__init__" s_BadName_init a.i_BadName a.di_BadName
  bi_BadName : L2.Binds K a.di_BadName (["self", "name"] : List Str) []
  no_BadName_name : PySem.W.findIn K (.ref a.c_BadName) "name" = some none
  e_BadText : ErrK K a.c_BadText (.ref a.c_GenusError :: veT)
  g_BadText : mg "BadText" = some (.ref a.c_BadText)
  i_BadText : PySem.W.findIn K (.ref a.c_BadText) "__init__" = some (some (.ref a.i_BadText))
  ti_BadText : PySem.W.typeIn K (.ref a.i_BadText) = some (.type "function")
  Fi_BadText : Fun K "__init__" "BadText.__init__" s_BadText_init a.i_BadText a.di_BadText
  bi_BadText : L2.Binds K a.di_BadText (["self", "line", "word"] : List Str) []
  no_BadText_line : PySem.W.findIn K (.ref a.c_BadText) "line" = some none
  no_BadText_word : PySem.W.findIn K (.ref a.c_BadText) "word" = some none
  e_NoPlace : ErrK K a.c_NoPlace (.ref a.c_GenusError :: veT)
  g_NoPlace : mg "NoPlace" = some (.ref a.c_NoPlace)
  i_NoPlace : PySem.W.findIn K (.ref a.c_NoPlace) "__init__" = some (some (.ref a.i_NoPlace))
  ti_NoPlace : PySem.W.typeIn K (.ref a.i_NoPlace) = some (.type "function")
  Fi_NoPlace : Fun K "__init__" "NoPlace.__init__" s_NoPlace_init a.i_NoPlace a.di_NoPlace
  bi_NoPlace : L2.Binds K a.di_NoPlace (["self", "what", "index"] : List Str) []
  no_NoPlace_what : PySem.W.findIn K (.ref a.c_NoPlace) "what" = some none
  no_NoPlace_index : PySem.W.findIn K (.ref a.c_NoPlace) "index" = some none
  e_NoName : ErrK K a.c_NoName (.ref a.c_GenusError :: veT)
  g_NoName : mg "NoName" = some (.ref a.c_NoName)
  i_NoName : PySem.W.findIn K (.ref a.c_NoName) "__init__" = some (some (.ref a.i_NoName))
  ti_NoName : PySem.W.typeIn K (.ref a.i_NoName) = some (.type "function")
  Fi_NoName : Fun K "__init__" "NoName.__init__" s_NoName_init a.i_NoName a.di_NoName
  bi_NoName : L2.Binds K a.di_NoName (["self", "name"] : List Str) []
  no_NoName_name : PySem.W.findIn K (.ref a.c_NoName) "name" = some none
  e_TakenName : ErrK K a.c_TakenName (.ref a.c_GenusError :: veT)
  g_TakenName : mg "TakenName" = some (.ref a.c_TakenName)
  i_TakenName : PySem.W.findIn K (.ref a.c_TakenName) "__init__" = some (some (.ref a.i_TakenName))
  ti_TakenName : PySem.W.typeIn K (.ref a.i_TakenName) = some (.type "function")
  Fi_TakenName : Fun K "__init__" "TakenName.__init__" s_TakenName_init a.i_TakenName a.di_TakenName
  bi_TakenName : L2.Binds K a.di_TakenName (["self", "name"] : List Str) []
  no_TakenName_name : PySem.W.findIn K (.ref a.c_TakenName) "name" = some none
  e_Unlike : ErrK K a.c_Unlike (.ref a.c_GenusError :: veT)
  g_Unlike : mg "Unlike" = some (.ref a.c_Unlike)
  i_Unlike : PySem.W.findIn K (.ref a.c_Unlike) "__init__" = some (some (.ref a.i_Unlike))
  ti_Unlike : PySem.W.typeIn K (.ref a.i_Unlike) = some (.type "function")
  Fi_Unlike : Fun K "__init__" "Unlike.__init__" s_Unlike_init a.i_Unlike a.di_Unlike
  bi_Unlike : L2.Binds K a.di_Unlike (["self", "what"] : List Str) []
  no_Unlike_what : PySem.W.findIn K (.ref a.c_Unlike) "what" = some none
  e_NotThere : ErrK K a.c_NotThere (.ref a.c_GenusError :: veT)
  g_NotThere : mg "NotThere" = some (.ref a.c_NotThere)
  i_NotThere : PySem.W.findIn K (.ref a.c_NotThere) "__init__" = some (some (.ref a.i_NotThere))
  ti_NotThere : PySem.W.typeIn K (.ref a.i_NotThere) = some (.type "function")
  Fi_NotThere : Fun K "__init__" "NotThere.__init__" s_NotThere_init a.i_NotThere a.di_NotThere
  bi_NotThere : L2.Binds K a.di_NotThere (["self", "paper"] : List Str) []
  no_NotThere_paper : PySem.W.findIn K (.ref a.c_NotThere) "paper" = some none
  e_TooMany : ErrK K a.c_TooMany (.ref a.c_GenusError :: veT)
  g_TooMany : mg "TooMany" = some (.ref a.c_TooMany)
  i_TooMany : PySem.W.findIn K (.ref a.c_TooMany) "__init__" = some (some (.ref a.i_TooMany))
  ti_TooMany : PySem.W.typeIn K (.ref a.i_TooMany) = some (.type "function")
  Fi_TooMany : Fun K "__init__" "TooMany.__init__" s_TooMany_init a.i_TooMany a.di_TooMany
  bi_TooMany : L2.Binds K a.di_TooMany (["self", "what", "many", "limit"] : List Str) []
  no_TooMany_what : PySem.W.findIn K (.ref a.c_TooMany) "what" = some none
  no_TooMany_many : PySem.W.findIn K (.ref a.c_TooMany) "many" = some none
  no_TooMany_limit : PySem.W.findIn K (.ref a.c_TooMany) "limit" = some none
  e_NotKept : ErrK K a.c_NotKept (.ref a.c_GenusError :: veT)
  g_NotKept : mg "NotKept" = some (.ref a.c_NotKept)
  i_NotKept : PySem.W.findIn K (.ref a.c_NotKept) "__init__" = some (some (.ref a.i_NotKept))
  ti_NotKept : PySem.W.typeIn K (.ref a.i_NotKept) = some (.type "function")
  Fi_NotKept : Fun K "__init__" "NotKept.__init__" s_NotKept_init a.i_NotKept a.di_NotKept
  bi_NotKept : L2.Binds K a.di_NotKept (["self", "promise", "witness"] : List Str) []
  no_NotKept_promise : PySem.W.findIn K (.ref a.c_NotKept) "promise" = some none
  no_NotKept_witness : PySem.W.findIn K (.ref a.c_NotKept) "witness" = some none
  e_NothingToUndo : ErrK K a.c_NothingToUndo (.ref a.c_GenusError :: veT)
  g_NothingToUndo : mg "NothingToUndo" = some (.ref a.c_NothingToUndo)
  x_NothingToUndo : PySem.W.excIn K a.c_NothingToUndo [.type "ValueError", .type "Exception", .type "BaseException", .type "object"] "ValueError.__new__" = true
  e_NothingToRedo : ErrK K a.c_NothingToRedo (.ref a.c_GenusError :: veT)
  g_NothingToRedo : mg "NothingToRedo" = some (.ref a.c_NothingToRedo)
  x_NothingToRedo : PySem.W.excIn K a.c_NothingToRedo [.type "ValueError", .type "Exception", .type "BaseException", .type "object"] "ValueError.__new__" = true
structure Sy (mg : Str → Option Value) (base : Heap) (a : Ad) : Prop where
  sys : SysD base
  tb : ∀ p ∈ tbs a, LamX.TabB base mg p.1 p.2
  tq : ∀ p q, p ∈ tbq a → q ∈ tbq a → p.1 = q.1 → p.2 = q.2
section
variable {P : Program} {w : World} {K : PySem.W.Frag} {mg : Str → Option Value} {base : Heap} {a : Ad}
theorem Tx.y_BadNumber (T : Tx K mg a) : PySem.W.keepIn K (.ref a.c_BadNumber) = true := T.e_BadNumber.kp
theorem Tx.o_BadNumber (T : Tx K mg a) : PySem.W.subIn K (.ref a.c_BadNumber) (.type "BaseException") = some true := T.e_BadNumber.raises vees
theorem Tx.t_BadNumber (T : Tx K mg a) : PySem.W.typeIn K (.ref a.c_BadNumber) = some (.type "type") := T.e_BadNumber.ty
theorem Tx.O_BadNumber (T : Tx K mg a) : OexC K a.c_BadNumber := T.e_BadNumber.oex vees
theorem in_BadNumber (T : Tx K mg a) : FnOk P w K mg base CX0 1 a.i_BadNumber a.di_BadNumber (["self", "what", "number"] : List Str) (spInit a.c_BadNumber (["what", "number"] : List Str)) := init2 T.Fi_BadNumber sc_BadNumber_init T.O_BadNumber T.no_BadNumber_what T.no_BadNumber_number (fun cdv A outer s H E => (pss_cons (ps_ost (pv 0) (pv 1)) (pss_one (ps_ost (pv 0) (pv 2)))))
theorem Tx.y_BadRow (T : Tx K mg a) : PySem.W.keepIn K (.ref a.c_BadRow) = true := T.e_BadRow.kp
theorem Tx.o_BadRow (T : Tx K mg a) : PySem.W.subIn K (.ref a.c_BadRow) (.type "BaseException") = some true := T.e_BadRow.raises vees
theorem Tx.t_BadRow (T : Tx K mg a) : PySem.W.typeIn K (.ref a.c_BadRow) = some (.type "type") := T.e_BadRow.ty
theorem Tx.O_BadRow (T : Tx K mg a) : OexC K a.c_BadRow := T.e_BadRow.oex vees
theorem in_BadRow (T : Tx K mg a) : FnOk P w K mg base CX0 1 a.i_BadRow a.di_BadRow (["self", "what", "row"] : List Str) (spInit a.c_BadRow (["what", "row"] : List Str)) := init2 T.Fi_BadRow sc_BadRow_init T.O_BadRow T.no_BadRow_what T.no_BadRow_row (fun cdv A outer s H E => (pss_cons (ps_ost (pv 0) (pv 1)) (pss_one (ps_ost (pv 0) (pv 2)))))
theorem Tx.y_BadTable (T : Tx K mg a) : PySem.W.keepIn K (.ref a.c_BadTable) = true := T.e_BadTable.kp
theorem Tx.o_BadTable (T : Tx K mg a) : PySem.W.subIn K (.ref a.c_BadTable) (.type "BaseException") = some true := T.e_BadTable.raises vees
theorem Tx.t_BadTable (T : Tx K mg a) : PySem.W.typeIn K (.ref a.c_BadTable) = some (.type "type") := T.e_BadTable.ty
theorem Tx.O_BadTable (T : Tx K mg a) : OexC K a.c_BadTable := T.e_BadTable.oex vees
theorem in_BadTable (T : Tx K mg a) : FnOk P w K mg base CX0 1 a.i_BadTable a.di_BadTable (["self", "what"] : List Str) (spInit a.c_BadTable (["what"] : List Str)) := init1 T.Fi_BadTable sc_BadTable_init T.O_BadTable T.no_BadTable_what (fun cdv A outer s H E => (pss_one (ps_ost (pv 0) (pv 1))))
theorem Tx.y_BadForm (T : Tx K mg a) : PySem.W.keepIn K (.ref a.c_BadForm) = true := T.e_BadForm.kp
theorem Tx.o_BadForm (T : Tx K mg a) : PySem.W.subIn K (.ref a.c_BadForm) (.type "BaseException") = some true := T.e_BadForm.raises vees
theorem Tx.t_BadForm (T : Tx K mg a) : PySem.W.typeIn K (.ref a.c_BadForm) = some (.type "type") := T.e_BadForm.ty
theorem Tx.O_BadForm (T : Tx K mg a) : OexC K a.c_BadForm := T.e_BadForm.oex vees
theorem in_BadForm (T : Tx K mg a) : FnOk P w K mg base CX0 1 a.i_BadForm a.di_BadForm (["self", "what"] : List Str) (spInit a.c_BadForm (["what"] : List Str)) := init1 T.Fi_BadForm sc_BadForm_init T.O_BadForm T.no_BadForm_what (fun cdv A outer s H E => (pss_one (ps_ost (pv 0) (pv 1))))
theorem Tx.y_BadBook (T : Tx K mg a) : PySem.W.keepIn K (.ref a.c_BadBook) = true := T.e_BadBook.kp
theorem Tx.o_BadBook (T : Tx K mg a) : PySem.W.subIn K (.ref a.c_BadBook) (.type "BaseException") = some true := T.e_BadBook.raises vees
theorem Tx.t_BadBook (T : Tx K mg a) : PySem.W.typeIn K (.ref a.c_BadBook) = some (.type "type") := T.e_BadBook.ty
theorem Tx.O_BadBook (T : Tx K mg a) : OexC K a.c_BadBook := T.e_BadBook.oex vees
theorem in_BadBook (T : Tx K mg a) : FnOk P w K mg base CX0 1 a.i_BadBook a.di_BadBook (["self", "what"] : List Str) (spInit a.c_BadBook (["what"] : List Str)) := init1 T.Fi_BadBook sc_BadBook_init T.O_BadBook T.no_BadBook_what (fun cdv A outer s H E => (pss_one (ps_ost (pv 0) (pv 1))))
theorem Tx.y_BadName (T : Tx K mg a) : PySem.W.keepIn K (.ref a.c_BadName) = true := T.e_BadName.kp
theorem Tx.o_BadName (T : Tx K mg a) : PySem.W.subIn K (.ref a.c_BadName) (.type "BaseException") = some true := T.e_BadName.raises vees
theorem Tx.t_BadName (T : Tx K mg a) : PySem.W.typeIn K (.ref a.c_BadName) = some (.type "type") := T.e_BadName.ty
theorem Tx.O_BadName (T : Tx K mg a) : OexC K a.c_BadName := T.e_BadName.oex vees
theorem in_BadName (T : Tx K mg a) : FnOk P w K mg base CX0 1 a.i_BadName a.di_BadName (["self", "name"] : List Str) (spInit a.c_BadName (["name"] : List Str)) := init1 T.Fi_BadName sc_BadName_init T.O_BadName T.no_BadName_name (fun cdv A outer s H E => (pss_one (ps_ost (pv 0) (pv 1))))
theorem Tx.y_BadText (T : Tx K mg a) : PySem.W.keepIn K (.ref a.c_BadText) = true := T.e_BadText.kp
theorem Tx.o_BadText (T : Tx K mg a) : PySem.W.subIn K (.ref a.c_BadText) (.type "BaseException") = some true := T.e_BadText.raises vees
theorem Tx.t_BadText (T : Tx K mg a) : PySem.W.typeIn K (.ref a.c_BadText) = some (.type "type") := T.e_BadText.ty
theorem Tx.O_BadText (T : Tx K mg a) : OexC K a.c_BadText := T.e_BadText.oex vees
theorem in_BadText (T : Tx K mg a) : FnOk P w K mg base CX0 1 a.i_BadText a.di_BadText (["self", "line", "word"] : List Str) (spInit a.c_BadText (["line", "word"] : List Str)) := init2 T.Fi_BadText sc_BadText_init T.O_BadText T.no_BadText_line T.no_BadText_word (fun cdv A outer s H E => (pss_cons (ps_ost (pv 0) (pv 1)) (pss_one (ps_ost (pv 0) (pv 2)))))
theorem Tx.y_NoPlace (T : Tx K mg a) : PySem.W.keepIn K (.ref a.c_NoPlace) = true := T.e_NoPlace.kp
theorem Tx.o_NoPlace (T : Tx K mg a) : PySem.W.subIn K (.ref a.c_NoPlace) (.type "BaseException") = some true := T.e_NoPlace.raises vees
theorem Tx.t_NoPlace (T : Tx K mg a) : PySem.W.typeIn K (.ref a.c_NoPlace) = some (.type "type") := T.e_NoPlace.ty
theorem Tx.O_NoPlace (T : Tx K mg a) : OexC K a.c_NoPlace := T.e_NoPlace.oex vees
theorem in_NoPlace (T : Tx K mg a) : FnOk P w K mg base CX0 1 a.i_NoPlace a.di_NoPlace (["self", "what", "index"] : List Str) (spInit a.c_NoPlace (["what", "index"] : List Str)) := init2 T.Fi_NoPlace sc_NoPlace_init T.O_NoPlace T.no_NoPlace_what T.no_NoPlace_index (fun cdv A outer s H E => (pss_cons (ps_ost (pv 0) (pv 1)) (pss_one (ps_ost (pv 0) (pv 2)))))
theorem Tx.y_NoName (T : Tx K mg a) : PySem.W.keepIn K (.ref a.c_NoName) = true := T.e_NoName.kp
theorem Tx.o_NoName (T : Tx K mg a) : PySem.W.subIn K (.ref a.c_NoName) (.type "BaseException") = some true := T.e_NoName.raises vees
theorem Tx.t_NoName (T : Tx K mg a) : PySem.W.typeIn K (.ref a.c_NoName) = some (.type "type") := T.e_NoName.ty
theorem Tx.O_NoName (T : Tx K mg a) : OexC K a.c_NoName := T.e_NoName.oex vees
theorem in_NoName (T : Tx K mg a) : FnOk P w K mg base CX0 1 a.i_NoName a.di_NoName (["self", "name"] : List Str) (spInit a.c_NoName (["name"] : List Str)) := init1 T.Fi_NoName sc_NoName_init T.O_NoName T.no_NoName_name (fun cdv A outer s H E => (pss_one (ps_ost (pv 0) (pv 1))))
theorem Tx.y_TakenName (T : Tx K mg a) : PySem.W.keepIn K (.ref a.c_TakenName) = true := T.e_TakenName.kp
theorem Tx.o_TakenName (T : Tx K mg a) : PySem.W.subIn K (.ref a.c_TakenName) (.type "BaseException") = some true := T.e_TakenName.raises vees
theorem Tx.t_TakenName (T : Tx K mg a) : PySem.W.typeIn K (.ref a.c_TakenName) = some (.type "type") := T.e_TakenName.ty
theorem Tx.O_TakenName (T : Tx K mg a) : OexC K a.c_TakenName := T.e_TakenName.oex vees
theorem in_TakenName (T : Tx K mg a) : FnOk P w K mg base CX0 1 a.i_TakenName a.di_TakenName (["self", "name"] : List Str) (spInit a.c_TakenName (["name"] : List Str)) := init1 T.Fi_TakenName sc_TakenName_init T.O_TakenName T.no_TakenName_name (fun cdv A outer s H E => (pss_one (ps_ost (pv 0) (pv 1))))
theorem Tx.y_Unlike (T : Tx K mg a) : PySem.W.keepIn K (.ref a.c_Unlike) = true := T.e_Unlike.kp
theorem Tx.o_Unlike (T : Tx K mg a) : PySem.W.subIn K (.ref a.c_Unlike) (.type "BaseException") = some true := T.e_Unlike.raises vees
theorem Tx.t_Unlike (T : Tx K mg a) : PySem.W.typeIn K (.ref a.c_Unlike) = some (.type "type") := T.e_Unlike.ty
theorem Tx.O_Unlike (T : Tx K mg a) : OexC K a.c_Unlike := T.e_Unlike.oex vees
theorem in_Unlike (T : Tx K mg a) : FnOk P w K mg base CX0 1 a.i_Unlike a.di_Unlike (["self", "what"] : List Str) (spInit a.c_Unlike (["what"] : List Str)) := init1 T.Fi_Unlike sc_Unlike_init T.O_Unlike T.no_Unlike_what (fun cdv A outer s H E => (pss_one (ps_ost (pv 0) (pv 1))))
theorem Tx.y_NotThere (T : Tx K mg a) : PySem.W.keepIn K (.ref a.c_NotThere) = true := T.e_NotThere.kp
theorem Tx.o_NotThere (T : Tx K mg a) : PySem.W.subIn K (.ref a.c_NotThere) (.type "BaseException") = some true := T.e_NotThere.raises vees
theorem Tx.t_NotThere (T : Tx K mg a) : PySem.W.typeIn K (.ref a.c_NotThere) = some (.type "type") := T.e_NotThere.ty
theorem Tx.O_NotThere (T : Tx K mg a) : OexC K a.c_NotThere := T.e_NotThere.oex vees
theorem in_NotThere (T : Tx K mg a) : FnOk P w K mg base CX0 1 a.i_NotThere a.di_NotThere (["self", "paper"] : List Str) (spInit a.c_NotThere (["paper"] : List Str)) := init1 T.Fi_NotThere sc_NotThere_init T.O_NotThere T.no_NotThere_paper (fun cdv A outer s H E => (pss_one (ps_ost (pv 0) (pv 1))))
theorem Tx.y_TooMany (T : Tx K mg a) : PySem.W.keepIn K (.ref a.c_TooMany) = true := T.e_TooMany.kp
theorem Tx.o_TooMany (T : Tx K mg a) : PySem.W.subIn K (.ref a.c_TooMany) (.type "BaseException") = some true := T.e_TooMany.raises vees
theorem Tx.t_TooMany (T : Tx K mg a) : PySem.W.typeIn K (.ref a.c_TooMany) = some (.type "type") := T.e_TooMany.ty
theorem Tx.O_TooMany (T : Tx K mg a) : OexC K a.c_TooMany := T.e_TooMany.oex vees
theorem in_TooMany (T : Tx K mg a) : FnOk P w K mg base CX0 1 a.i_TooMany a.di_TooMany (["self", "what", "many", "limit"] : List Str) (spInit a.c_TooMany (["what", "many", "limit"] : List Str)) := init3 T.Fi_TooMany sc_TooMany_init T.O_TooMany T.no_TooMany_what T.no_TooMany_many T.no_TooMany_limit (fun cdv A outer s H E => (pss_cons (ps_ost (pv 0) (pv 1)) (pss_cons (ps_ost (pv 0) (pv 2)) (pss_one (ps_ost (pv 0) (pv 3))))))
theorem Tx.y_NotKept (T : Tx K mg a) : PySem.W.keepIn K (.ref a.c_NotKept) = true := T.e_NotKept.kp
theorem Tx.o_NotKept (T : Tx K mg a) : PySem.W.subIn K (.ref a.c_NotKept) (.type "BaseException") = some true := T.e_NotKept.raises vees
theorem Tx.t_NotKept (T : Tx K mg a) : PySem.W.typeIn K (.ref a.c_NotKept) = some (.type "type") := T.e_NotKept.ty
theorem Tx.O_NotKept (T : Tx K mg a) : OexC K a.c_NotKept := T.e_NotKept.oex vees
theorem in_NotKept (T : Tx K mg a) : FnOk P w K mg base CX0 1 a.i_NotKept a.di_NotKept (["self", "promise", "witness"] : List Str) (spInit a.c_NotKept (["promise", "witness"] : List Str)) := init2 T.Fi_NotKept sc_NotKept_init T.O_NotKept T.no_NotKept_promise T.no_NotKept_witness (fun cdv A outer s H E => (pss_cons (ps_ost (pv 0) (pv 1)) (pss_one (ps_ost (pv 0) (pv 2)))))
theorem Tx.y_NothingToUndo (T : Tx K mg a) : PySem.W.keepIn K (.ref a.c_NothingToUndo) = true := T.e_NothingToUndo.kp
theorem Tx.o_NothingToUndo (T : Tx K mg a) : PySem.W.subIn K (.ref a.c_NothingToUndo) (.type "BaseException") = some true := T.e_NothingToUndo.raises vees
theorem Tx.t_NothingToUndo (T : Tx K mg a) : PySem.W.typeIn K (.ref a.c_NothingToUndo) = some (.type "type") := T.e_NothingToUndo.ty
theorem Tx.y_NothingToRedo (T : Tx K mg a) : PySem.W.keepIn K (.ref a.c_NothingToRedo) = true := T.e_NothingToRedo.kp
theorem Tx.o_NothingToRedo (T : Tx K mg a) : PySem.W.subIn K (.ref a.c_NothingToRedo) (.type "BaseException") = some true := T.e_NothingToRedo.raises vees
theorem Tx.t_NothingToRedo (T : Tx K mg a) : PySem.W.typeIn K (.ref a.c_NothingToRedo) = some (.type "type") := T.e_NothingToRedo.ty
theorem sy_mk (T : Tx K mg a) (h : SysD base) (tb : ∀ p ∈ tbs a, LamX.TabB base mg p.1 p.2) : Sy mg base a := ⟨h, tb, fun p q hp hq e => congrArg Prod.snd (nodup_fst T.tn hp hq e)⟩
end
section
variable {P : Program} {w : World} {K : PySem.W.Frag} {mg : Str → Option Value} {base : Heap} {a : Ad}
def F_draw : DF := fun ss R _ => ∃ m : Int, ss = [.pen, .sh (.int m)] ∧ 0 < m ∧ m.natAbs.log2 < 9000 ∧ ∀ k : Int, 0 ≤ k → k < m → R (.int k)
theorem ok__law_draw (T : Tx K mg a) (hS : Sy mg base a) : FnG P w K mg base true 1 a.f__law_draw a.d__law_draw (["pen", "many"] : List Str) (fun _ => spD K F_draw) := by
  refine fn_go T.F__law_draw sc__law_draw (fun pl vs H Q E h => ?_) (fun cdv A outer s H vs Q E pl hr h => ?_)
  · obtain ⟨Hf, M, ss, R, X, _, _, h3, ⟨m, rfl, _⟩, _⟩ := h
    exact h3.length
  obtain ⟨Hf, M, ss, R, X, h1, h2, h3, ⟨m, rfl, hm, hl, hR⟩, h5, h6⟩ := h
  obtain ⟨v1, v2, rfl, q1, q2⟩ : ∃ v1 v2, vs = [v1, v2] ∧ ArgOk K M Hf v1 .pen ∧ ArgOk K M Hf v2 (.sh (.int m)) := by
    cases h3 with
    | cons q1 h3 =>
      cases h3 with
      | cons q2 h3 =>
        cases h3
        exact ⟨_, _, rfl, q1, q2⟩
  obtain ⟨p, hpM, rfl⟩ := (show ∃ p ∈ M, v1 = .ref p from q1)
  have ev := Rp.int_inv (show Rp K Hf v2 (.int m) from q2)
  subst ev
  obtain ⟨hpf, o, hp, c, ns, at', dg, cn, fo, rfl, hs, b1, b2, b3, b4, b5, b6⟩ := h2 p hpM
  have hH : H = upd H p (.dK (penL c at' dg cn fo)) := same_upd hp
  have fin : ∀ (a' d' n' f' k : Int), 0 ≤ a' → 0 ≤ d' → d'.natAbs < 2 ^ 1048577 → 0 ≤ f' → f' < 2 ^ 31 → 0 ≤ k → k < m → Q (.int k) (upd H p (.dK (penL c a' d' n' f'))) := fun a' d' n' f' k g1 g2 g3 g4 g5 g6 g7 =>
    h5 (.int k) (.int k) Hf _ (pen_exit h1 h2 hpM (penO_of hs g1 g2 g3 g4 g5 b6)) (.int k) (hR k g6 g7)
  refine ⟨_, (pss_cons (ps_dput hr.hu1 (pv 0) pe_str (pe_op op_addG (pe_dget hr.hu1 (pv 0) pe_str (fun _ _ => rfl)) pe_int) rfl)
      (pss_cons (ps_if (PW.pt (pw_and (pt_cmpR (op_eqG hr.hu) (pe_dget hr.hu1 (pv 0) pe_str (fun _ _ => rfl)) pe_int (nomark _)) (pw_and1 (pt_cmpR op_lt (pe_dget hr.hu1 (pv 0) pe_str (fun _ _ => rfl)) (pe_callB call_lenV (by rfl) T.n_len PySem.boot_len (pa_cons (pe_dget hr.hu1 (pv 0) pe_str (fun _ _ => rfl)) pa_nil)) (nomark _))))) (pss_cons (ps_set (i := 2) sc__law_draw.nd rfl (Or.inl rfl) (pe_ix ix_seq (pe_dget hr.hu1 (pv 0) pe_str (fun _ _ => rfl)) (pe_dget hr.hu1 (pv 0) pe_str (fun _ _ => rfl)) (fun _ _ => rfl)))
      (pss_cons (ps_dput hr.hu1 (pv 0) pe_str (pe_op op_addG (pe_dget hr.hu1 (pv 0) pe_str (fun _ _ => rfl)) pe_int) rfl)
      (pss_one (ps_if (pt_cmpR op_ge (pv 2) (pe_op op_pow pe_int pe_int) (nomark _)) (pss_one (ps_dput hr.hu1 (pv 0) pe_str (pe_op op_sub (pv 2) (pe_op op_pow pe_int pe_int)) rfl)) (pss_one (ps_dput hr.hu1 (pv 0) pe_str (pe_op op_modN (pe_callTy call_intV (by rfl) T.n_int PyProof.Rows.boot_int (pa_cons (pe_op op_addG (pe_op op_mulG (pe_dget hr.hu1 (pv 0) pe_str (fun _ _ => rfl)) pe_int) (pv 2)) pa_nil)) pe_int) rfl)))))) pss_nil)
      (pss_cons (ps_if (pt_cmpR op_gt (pe_dget hr.hu1 (pv 0) pe_str (fun _ _ => rfl)) pe_int (nomark _)) (pss_cons (ps_set (i := 3) sc__law_draw.nd rfl (Or.inl rfl) (pe_op op_modN (pe_callTy call_intV (by rfl) T.n_int PyProof.Rows.boot_int (pa_cons (pe_dget hr.hu1 (pv 0) pe_str (fun _ _ => rfl)) pa_nil)) (pv 1)))
      (pss_cons (ps_dput hr.hu1 (pv 0) pe_str (pe_op op_fdivG (pe_dget hr.hu1 (pv 0) pe_str (fun _ _ => rfl)) (pv 1)) rfl)
      (pss_one (ps_ret (pv 3))))) pss_nil)
      (pss_cons (ps_set (i := 4) sc__law_draw.nd rfl (Or.inl rfl) (pe_op op_modN (pe_callTy call_intV (by rfl) T.n_int PyProof.Rows.boot_int (pa_cons (pe_op op_addG (pe_op op_addG (pe_op op_mulG (pe_dget hr.hu1 (pv 0) pe_str (fun _ _ => rfl)) pe_int) (pe_op op_mulG (pe_dget hr.hu1 (pv 0) pe_str (fun _ _ => rfl)) pe_int)) pe_int) pa_nil)) pe_int))
      (pss_cons (ps_set (i := 4) sc__law_draw.nd rfl (Or.inl rfl) (pe_op op_modN (pe_callTy call_intV (by rfl) T.n_int PyProof.Rows.boot_int (pa_cons (pe_op op_addG (pe_op op_addG (pe_op op_mulG (pv 4) (pv 4)) (pe_op op_mulG pe_int (pv 4))) (pe_dget hr.hu1 (pv 0) pe_str (fun _ _ => rfl))) pa_nil)) pe_int))
      (pss_cons (ps_dput hr.hu1 (pv 0) pe_str (pe_op op_modN (pe_callTy call_intV (by rfl) T.n_int PyProof.Rows.boot_int (pa_cons (pe_op op_addG (pe_op op_mulG (pv 4) pe_int) pe_int) pa_nil)) pe_int) rfl)
      (pss_one (ps_ret (pe_op op_modN (pe_callTy call_intV (by rfl) T.n_int PyProof.Rows.boot_int (pa_cons (pe_op op_fdivG (pv 4) pe_int) pa_nil)) (pv 1)))))))))), ?_⟩
  have h0 : ∀ (o2 o3 o4 : Option V), ([some (V.ref p), some (V.int m), o2, o3, o4] : L2.St)[0]? = some (some (.ref p)) := fun _ _ _ => rfl
  rw [hH]
  show tSeq _ _ _ ([some (V.ref p), some (V.int m), none, none, none] : L2.St) _
  refine pen_put (v := .int (cn + 1)) rfl (p_count _) (fun R q => pen_get rfl v_count (Or.inl ⟨cn, 1, rfl, rfl, q⟩)) ?_
  have hx : ∀ o', Ex Hf (upd H p o') := fun o' a u e => by
    rw [upd_ne (ne_of_none e hpf)]
    exact h1 a u e
  have pw : CPow 10 18 := ⟨by decide, by decide, by decide⟩
  dsimp only
  refine if_cut (fun σ' H' => ∃ (o2 : Option V) (a' d' n' f' : Int), σ' = [some (V.ref p), some (V.int m), o2, none, none] ∧ H' = upd H p (.dK (penL c a' d' n' f')) ∧ 0 ≤ a' ∧ 0 ≤ d' ∧ d'.natAbs < 2 ^ 1048577 ∧ 0 ≤ f' ∧ f' < 2 ^ 31) ?_ (fun N hN => ?_)
  · rintro _ _ ⟨o2, a', d', n', f', rfl, rfl, g1, g2, g3, g4, g5⟩
    refine pen_get rfl v_digits ⟨d', 0, rfl, rfl, _, rfl, ite2 (fun z => ?_) (fun z => ?_)⟩
    · refine pen_get rfl v_digits (Or.inl ⟨_, rfl, _, rfl, _, _, rfl, rfl, by omega, ?_⟩)
      dsimp only [gName]
      refine pen_put (v := .int (d'.fdiv m)) rfl (p_digits _) (fun R q => pen_get rfl v_digits ⟨_, rfl, _, _, rfl, rfl, ⟨by omega, hl⟩, q⟩) ?_
      refine ⟨_, rfl, ?_⟩
      exact fin _ _ _ _ _ g1 (fdiv_lo g2 hm) (Nat.lt_of_le_of_lt (fdiv_abs g2 hm) g3) g4 g5 (fmod_lo _ hm) (fmod_hi _ hm)
    · refine pen_get rfl v_fold ⟨f', _, rfl, rfl, mul_small (Or.inr ⟨by decide, by decide⟩), ?_⟩
      refine pen_get rfl v_count ⟨n', _, rfl, rfl, mul_small (Or.inr ⟨by decide, by decide⟩), ?_⟩
      refine Or.inl ⟨_, _, rfl, rfl, Or.inl ⟨_, _, rfl, rfl, Or.inl ⟨_, rfl, _, _, rfl, rfl, (show (2147483647 : Int) ≠ 0 by decide), ?_⟩⟩⟩
      dsimp only [gName]
      have w1 := fmod_lo (f' * 48271 + n' * 7919 + 13) (m := 2147483647) (by decide)
      have w2 := fmod_hi (f' * 48271 + n' * 7919 + 13) (m := 2147483647) (by decide)
      generalize (f' * 48271 + n' * 7919 + 13).fmod 2147483647 = e1 at w1 w2
      refine ⟨_, rfl, _, rfl, e1, e1, rfl, rfl, mul_small (Or.inl ⟨by omega, by omega⟩), ?_⟩
      refine ⟨_, rfl, _, e1, rfl, rfl, mul_small (Or.inl ⟨by decide, by decide⟩), Or.inl ⟨_, _, rfl, rfl, ?_⟩⟩
      refine pen_get rfl v_count (Or.inl ⟨_, _, rfl, rfl, Or.inl ⟨_, rfl, _, _, rfl, rfl, (show (2147483629 : Int) ≠ 0 by decide), ?_⟩⟩)
      dsimp only [gName]
      have w3 := fmod_lo (e1 * e1 + 31 * e1 + n') (m := 2147483629) (by decide)
      have w4 := fmod_hi (e1 * e1 + 31 * e1 + n') (m := 2147483629) (by decide)
      generalize (e1 * e1 + 31 * e1 + n').fmod 2147483629 = e2 at w3 w4
      refine pen_put (v := .int ((e2 * 16807 + 7).fmod 2147483647)) rfl (p_fold _) (fun R q => ⟨_, rfl, e2, _, rfl, rfl, mul_small (Or.inl ⟨by omega, by omega⟩), Or.inl ⟨_, _, rfl, rfl, Or.inl ⟨_, rfl, _, _, rfl, rfl, (show (2147483647 : Int) ≠ 0 by decide), q⟩⟩⟩) ?_
      refine ⟨_, rfl, e2, _, rfl, rfl, ⟨by decide, by decide⟩, Or.inl ⟨_, rfl, _, rfl, _, _, rfl, rfl, by omega, ?_⟩⟩
      exact fin _ _ _ _ _ g1 g2 g3 (fmod_lo _ (by decide)) (Int.lt_trans (fmod_hi _ (by decide)) (by decide)) (fmod_lo _ hm) (fmod_hi _ hm)
  · refine pen_get rfl v_digits (Or.inl ⟨rfl, _, rfl, ite2 (fun z => ?_) (fun z => ?_)⟩)
    · refine pen_get rfl v_at (pen_get rfl v_cells ⟨_, _, rfl, Or.inl ⟨_, (hx _).sl hs, rfl⟩, at', _, rfl, rfl, _, rfl, ite2 (fun y => ?_) (fun y => ?_)⟩)
      · have hlt : at' < ns.length := by
          have q := of_decide_eq_true y
          rw [List.length_map] at q
          exact q
        obtain ⟨cell, hmem, hat⟩ := atI_ints b1 hlt
        refine pen_get rfl v_cells (pen_get rfl v_at (Or.inl ⟨c, _, at', .int cell, rfl, rfl, (hx _).sl hs, hat, ?_⟩))
        dsimp only [gName]
        refine pen_put (v := .int (at' + 1)) rfl (p_at _) (fun R q => pen_get rfl v_at (Or.inl ⟨at', 1, rfl, rfl, q⟩)) ?_
        have hb := bits_lt (b6 cell hmem)
        refine ⟨_, rfl, _, _, rfl, rfl, pw, cell, _, rfl, rfl, _, rfl, ite2 (fun x => ?_) (fun x => ?_)⟩
        · refine pen_put (v := .int (cell - 10 ^ 18)) rfl (p_digits _) (fun R q => ⟨_, rfl, _, _, rfl, rfl, pw, cell, _, rfl, rfl, q⟩) ?_
          have x' : (10 : Int) ^ 18 ≤ cell := of_decide_eq_true x
          refine hN _ _ ⟨_, _, _, _, _, rfl, rfl, by omega, by omega, ?_, b4, b5⟩
          have e : (2 : Nat) ^ 1048577 = 2 ^ 1048576 * 2 := Nat.pow_succ ..
          rw [e]
          generalize (2 : Nat) ^ 1048576 = W at hb
          omega
        · refine pen_put (v := .int ((fo * 69069 + cell).fmod 2147483587)) rfl (p_fold _) (fun R q => pen_get rfl v_fold ⟨fo, _, rfl, rfl, mul_small (Or.inl ⟨by omega, by omega⟩), _, rfl, Or.inl ⟨_, _, rfl, rfl, Or.inl ⟨_, rfl, _, _, rfl, rfl, (show (2147483587 : Int) ≠ 0 by decide), q⟩⟩⟩) ?_
          exact hN _ _ ⟨_, _, _, _, _, rfl, rfl, by omega, b2, b3, fmod_lo _ (by decide), Int.lt_trans (fmod_hi _ (by decide)) (by decide)⟩
      · exact hN _ _ ⟨_, _, _, _, _, rfl, rfl, b1, b2, b3, b4, b5⟩
    · exact iteF (hN _ _ ⟨_, _, _, _, _, rfl, rfl, b1, b2, b3, b4, b5⟩)
theorem ok__law_pen (T : Tx K mg a) (hS : Sy mg base a) : FnG P w K mg base true 1 a.f__law_pen a.d__law_pen (["script"] : List Str) (fun _ => spPen K) := by
  refine fn_go T.F__law_pen sc__law_pen (fun pl vs H Q E h => ?_) (fun cdv A outer s H vs Q E pl hr h => ?_)
  · obtain ⟨sa, ns, rfl, _⟩ := h
    rfl
  obtain ⟨sa, ns, rfl, hs, hl, hb, k⟩ := h
  refine ⟨_, (pss_cons (ps_set (i := 1) sc__law_pen.nd rfl (Or.inl rfl) pe_int)
      (pss_cons (ps_for (passes_of rfl) rfl (pi_seq (pv 0)) (pg_name (i := 2) sc__law_pen.nd rfl (Or.inl rfl)) (pss_one (ps_set (i := 1) sc__law_pen.nd rfl (Or.inl rfl) (pe_op op_modN (pe_callTy call_intV (by rfl) T.n_int PyProof.Rows.boot_int (pa_cons (pe_op op_addG (pe_op op_mulG (pv 1) pe_int) (pv 2)) pa_nil)) pe_int))))
      (pss_one (ps_ret (pe_disp (pps_cons pe_str (pe_callTy call_listV (by rfl) T.n_list PyProof.Rows.boot_list (pa_cons (pv 0) pa_nil)) (pps_cons pe_str pe_int (pps_cons pe_str pe_int (pps_cons pe_str pe_int (pps_cons pe_str (pv 1) pps_nil))))) (by rfl) (by rfl) (fun z => by cases z) (by decide)))))), ?_⟩
  refine ⟨_, rfl, sa, rfl, Or.inl ⟨⟨_, hs⟩, ?_⟩⟩
  refine for_list (xs := ns.map V.int) (fun i σ' H' => ∃ (f : Int) (o : Option V), σ' = [some (.ref sa), some (.int f), o] ∧ H' = H ∧ 0 ≤ f ∧ f < 2 ^ 31) ⟨0, none, rfl, rfl, by decide, by decide⟩ (fun i σ' H' _ z => ?_) (fun i x σ' H' hx z => ?_) (fun σ' H' z => ?_)
  · obtain ⟨f, o, rfl, rfl, _⟩ := z
    exact hs
  · obtain ⟨f, o, rfl, rfl, g1, g2⟩ := z
    obtain ⟨n, rfl⟩ : ∃ n, x = V.int n := by
      rw [List.getElem?_map] at hx
      cases e : ns[i]? with
      | none => rw [e] at hx; cases hx
      | some n => rw [e] at hx; exact ⟨n, (Option.some.inj hx).symm⟩
    refine ⟨_, rfl, f, _, rfl, rfl, mul_small (Or.inl ⟨by omega, by omega⟩), _, rfl, Or.inl ⟨_, _, rfl, rfl, Or.inl ⟨_, rfl, _, _, rfl, rfl, (show (1000000007 : Int) ≠ 0 by decide), ?_⟩⟩⟩
    exact ⟨_, _, rfl, rfl, fmod_lo _ (by decide), Int.lt_trans (fmod_hi _ (by decide)) (by decide)⟩
  · obtain ⟨f, o, rfl, rfl, g1, g2⟩ := z
    intro p hp
    refine ⟨_, rfl, sa, _, rfl, Or.inl ((Ex.new hp).sl hs), fun l hlp => ?_⟩
    have nlp : l ≠ p := fun z => by rw [z, upd_same] at hlp; cases hlp
    have nl : H' l = none := by rw [← hlp, upd_ne nlp]
    refine ⟨_, rfl, ?_⟩
    refine ⟨by rw [upd_ne nlp.symm, upd_same], penL l 0 0 0 f, rfl, (show 5 ≤ 15 by decide), ?_⟩
    have nH : ∀ b, H' b ≠ none → b ≠ l ∧ b ≠ p := fun b hb => ⟨fun z => hb (by rw [z]; exact nl), fun z => hb (by rw [z]; exact hp)⟩
    refine k p (.dK (penL l 0 0 0 f)) (upd (fun _ => none) l (.lst (ns.map V.int))) _ (fun b u e => ?_) (fun b hb => ?_) (fun b u e => ?_) (by rw [upd_ne nlp.symm]) upd_same (penO_of (SqL.of upd_same) (Int.le_refl 0) (Int.le_refl 0) (Nat.two_pow_pos _) g1 (by omega) hb)
    · obtain ⟨n1, n2⟩ := nH b (by rw [e]; exact fun z => nomatch z)
      rw [upd_ne n2, upd_ne n1, upd_ne n2]
      exact e
    · rw [upd_ne (nH b hb).1]
    · by_cases y : b = l
      · subst y
        rw [upd_same] at e
        rw [upd_ne nlp, upd_same]
        exact e
      · rw [upd_ne y] at e
        cases e
end
end Law

set_option Elab.async false
set_option linter.all false
set_option maxRecDepth 100000
set_option maxHeartbeats 4000000
namespace Law
open PySem PySem.Spec PyProof.Rows L2 G
section
variable {P : Program} {w : World} {K : PySem.W.Frag} {mg : Str → Option Value} {base : Heap} {a : Ad}
def F_pick : DF := fun ss R _ => ∃ x l, ss = [.pen, .sh x] ∧ seqD x = some l ∧ l ≠ [] ∧ l.length ≤ 1000 ∧ ∀ d ∈ l, R d
theorem log_small {n : Nat} (h : n < 2 ^ 9000) (h0 : n ≠ 0) : n.log2 < 9000 := (Nat.log2_lt h0).mpr h
theorem draw_ok {m : Int} (h0 : 0 < m) (h : m ≤ 2 ^ 60) : m.natAbs.log2 < 9000 := by
  have e : m.natAbs < 2 ^ 61 := by
    have : (2 : Nat) ^ 61 = 2 ^ 60 * 2 := by decide
    omega
  exact Nat.lt_of_lt_of_le ((Nat.log2_lt (by omega)).mpr e) (by decide)
theorem ok__law_pick (T : Tx K mg a) (hS : Sy mg base a) : FnG P w K mg base true 2 a.f__law_pick a.d__law_pick (["pen", "some"] : List Str) (fun _ => spD K F_pick) := by
  refine fn_data T.F__law_pick sc__law_pick (fun ss R X z => by obtain ⟨x, l, h, _⟩ := z; rw [h] <;> rfl) fun cdv A outer s H E pl hr => ⟨_, (pss_one (ps_ret (pe_ix ix_seq (pv 1) (pe_go (ok__law_draw T hS) (hr.mono (by decide)) (pl := []) (fun _ h => nomatch h) (by rfl) T.g__law_draw T.F__law_draw.kp T.b__law_draw lets0 (pa_cons (pv 0) (pa_cons (pe_callB call_lenV (by rfl) T.n_len PySem.boot_len (pa_cons (pv 1) pa_nil)) pa_nil))) (fun _ _ => rfl)))), fun b ss R X h hX => ?_⟩
  obtain ⟨x, l, rfl, hs, hn, hl, hR⟩ := h
  have hp : 0 < l.length := List.length_pos_iff.mpr hn
  refine ds_ret (de_ix (de_var rfl (de_call EL.no (dc_pen rfl (dc_cons (de_len (de_var rfl ⟨l.length, lenD_seq hs, dc_nil ⟨l.length, rfl, by omega, draw_ok (by omega) (by omega), fun k h1 h2 => ?_⟩⟩)))))))
  obtain ⟨d, hd, e⟩ := atI_nat h1 h2
  exact ⟨k, d, rfl, by rw [atD_seq hs]; exact e, hR d hd⟩
theorem sm_int {n w : Nat} {k : Int} (h0 : 0 ≤ k) (h : k < 10 ^ 6) : Sm n w (.int k) := by
  obtain ⟨m, rfl⟩ := Int.eq_ofNat_of_zero_le h0
  have hm : m < 10 ^ 6 := by omega
  have hl : (PyData.int (m : Int)).shown.length ≤ 50 := by
    rw [PyData.shown_int]
    have e := int_text_length_le10 (a := (m : Int)) (k := 6) (by decide) (by omega)
    rw [PySem.ofString_length]
    omega
  refine { pl := by simp [D.pl], sh := ?_, dp := by simp [D.py, PyData.depth], lv := ?_, bk := by simp [D.py, PyData.bulk] }
  · simp only [D.py, PyData.showable, decide_eq_true_eq]
    by_cases z : m = 0
    · subst z; decide
    · have e : ((m : Int)).natAbs = m := by omega
      rw [e]
      exact Nat.lt_of_lt_of_le ((Nat.log2_lt z).mpr (show m < 2 ^ 20 by omega)) (by decide)
  · simp only [D.py, PyData.leavesShort, decide_eq_true_eq]
    exact hl
end
end Law

set_option Elab.async false
set_option linter.all false
set_option maxRecDepth 100000
set_option maxHeartbeats 4000000
namespace Law
open PySem PySem.Spec PyProof.Rows L2 G
def kC (a : Ad) : Nat → Addr
  | 0 => a.c_BadNumber
  | 1 => a.c_BadRow
  | 2 => a.c_BadTable
  | 3 => a.c_BadForm
  | 4 => a.c_BadBook
  | 5 => a.c_BadName
  | 6 => a.c_BadText
  | 7 => a.c_NoPlace
  | 8 => a.c_NoName
  | 9 => a.c_TakenName
  | 10 => a.c_Unlike
  | 11 => a.c_NotThere
  | 12 => a.c_TooMany
  | 13 => a.c_NotKept
  | 14 => a.c_NothingToUndo
  | 15 => a.c_NothingToRedo
  | _ => 0
def kF (one two three : D) : Nat → List (Str × D)
  | 0 => [("number", two), ("what", one)]
  | 1 => [("row", two), ("what", one)]
  | 2 => [("what", one)]
  | 3 => [("what", one)]
  | 4 => [("what", one)]
  | 5 => [("name", one)]
  | 6 => [("word", two), ("line", one)]
  | 7 => [("index", two), ("what", one)]
  | 8 => [("name", one)]
  | 9 => [("name", one)]
  | 10 => [("what", one)]
  | 11 => [("paper", one)]
  | 12 => [("limit", three), ("many", two), ("what", one)]
  | 13 => [("witness", two), ("promise", one)]
  | 14 => []
  | 15 => []
  | _ => []
def kT (one two three : D) : Nat → D
  | 0 => .tup [.str "number", one, .str (two).py.shown]
  | 1 => .tup [.str "row", one, .str (two).py.shown]
  | 2 => .tup [.str "table", one]
  | 3 => .tup [.str "form", one]
  | 4 => .tup [.str "book", one]
  | 5 => .tup [.str "badname", .str (one).py.shown]
  | 6 => .tup [.str "text", one, two]
  | 7 => .tup [.str "place", one, .str (two).py.shown]
  | 8 => .tup [.str "noname", .str (one).py.shown]
  | 9 => .tup [.str "taken", .str (one).py.shown]
  | 10 => .tup [.str "unlike", one]
  | 11 => .tup [.str "notthere", one]
  | 12 => .tup [.str "many", one, two, three]
  | 13 => .tup [.str "kept", one, two]
  | 14 => .tup [.str "undo"]
  | 15 => .tup [.str "redo"]
  | _ => .non
theorem nodup_lt : ∀ {l : List Addr}, l.Nodup → ∀ {i j : Nat} {x y : Addr}, l[i]? = some x → l[j]? = some y → i < j → x ≠ y
  | [], _, _, _, _, _, h, _, _ => by simp at h
  | c :: r, h, 0, j + 1, x, y, hi, hj, _ => fun e => by
    have a := List.nodup_cons.mp h
    simp at hi hj
    subst hi; subst e
    exact a.1 (List.mem_of_getElem? hj)
  | c :: r, h, i + 1, j + 1, x, y, hi, hj, hl => nodup_lt (List.nodup_cons.mp h).2 (i := i) (j := j) (by simpa using hi) (by simpa using hj) (by omega)
  | c :: r, h, i + 1, 0, x, y, _, _, hl => by omega
theorem nodup_ne {l : List Addr} (h : l.Nodup) {i j : Nat} {x y : Addr} (hi : l[i]? = some x) (hj : l[j]? = some y) (hij : i ≠ j) : x ≠ y := by
  by_cases z : i < j
  · exact nodup_lt h hi hj z
  · exact (nodup_lt h hj hi (by omega)).symm
section
variable {P : Program} {w : World} {K : PySem.W.Frag} {mg : Str → Option Value} {base : Heap} {a : Ad}
theorem ds_isE {b : Bs} {ρ : List Sl} {pn : PinP} {i : Nat} {a0 C C' G : Addr} {d0 : Option Addr} {l0 : List (Str × D)} {tb : TS} {nx bk ct : List Sl → Prop} {rt : D → Prop} (hi : ρ[i]? = some (.sh (.exc a0 d0 C l0))) (hp : pn a0 d0 C)
    (e : ErrK K C (.ref G :: veT)) (e' : ErrK K C' (.ref G :: veT)) (hg : G ≠ C') (h1 : C = C' → DS K b ρ tb nx rt bk ct) (h2 : C ≠ C' → nx ρ) :
    DS K b ρ (tIfS (tTest (tCB (rIsG K pn) (tCons (tVar i) (tCons (tC (.ref C')) tNil)))) tb tNext) nx rt bk ct := by
  refine ds_if (dt_test (de_isX (.own C') (de_var hi ⟨_, _, _, _, _, rfl, hp, e.kit e', _, rfl, ?_⟩)))
  by_cases z : C = C'
  · subst z
    rw [contains_self]
    exact iteT (h1 rfl)
  · rw [contains_other z hg]
    exact iteF (ds_next (h2 z))
def F_law_more_kinds (K : PySem.W.Frag) (a : Ad) (pl : Pins) : DF := fun ss R _ => ∃ (k : Nat) (a0 : Addr) (d0 : Option Addr) (one two three : D), k < 16 ∧ PnOk K pl a0 d0 (kC a k) ∧ ss = [.sh (.exc a0 d0 (kC a k) (kF one two three k))] ∧ ((k = 5 ∨ k = 8 ∨ k = 9) → okR one) ∧ ((k = 0 ∨ k = 1 ∨ k = 7) → okR two) ∧ R (.lst (if 8 ≤ k then [kT one two three k] else []))
theorem ok__law_more_kinds (T : Tx K mg a) (hS : Sy mg base a) : FnG P w K mg base false 1 a.f__law_more_kinds a.d__law_more_kinds (["e"] : List Str) (spP K (fun _ => True) (F_law_more_kinds K a)) := by
  refine fn_dataP T.F__law_more_kinds sc__law_more_kinds (fun pl ss R X z => by obtain ⟨_, _, _, _, _, _, _, _, h, _⟩ := z; rw [h] <;> rfl) fun cdv A outer s H E pl hr _ => ⟨_, (pss_cons (ps_set (i := 1) sc__law_more_kinds.nd rfl (Or.inl rfl) (pe_lst pa_nil))
      (pss_cons (ps_if (pt_val (pe_callB (call_isG (pn := (fun a d C => PnOk K pl a d C)) (fun _ _ _ z => z)) (by rfl) T.n_isinstance PyProof.Rows.boot_isinstance (pa_cons (pv 0) (pa_cons (pe_glob (v := .ref a.c_NoName) (by rfl) T.g_NoName rfl) pa_nil)))) (pss_one (ps_expr (pe_bm PySem.F.plainAttrs_list PySem.F.slot_list_append PySem.F.type_list_append mt_append (pv 1) (pa_cons (pe_tup (pa_cons pe_str (pa_cons (pe_callB (call_repr hS.sys (hr.gd) hr.hu) (by rfl) T.n_repr PyProof.Rows.boot_repr (pa_cons (pe_xe (pn := (fun a d C => PnOk K pl a d C)) (fun _ _ _ z => z) (pv 0)) pa_nil)) pa_nil))) pa_nil)))) pss_nil)
      (pss_cons (ps_if (pt_val (pe_callB (call_isG (pn := (fun a d C => PnOk K pl a d C)) (fun _ _ _ z => z)) (by rfl) T.n_isinstance PyProof.Rows.boot_isinstance (pa_cons (pv 0) (pa_cons (pe_glob (v := .ref a.c_TakenName) (by rfl) T.g_TakenName rfl) pa_nil)))) (pss_one (ps_expr (pe_bm PySem.F.plainAttrs_list PySem.F.slot_list_append PySem.F.type_list_append mt_append (pv 1) (pa_cons (pe_tup (pa_cons pe_str (pa_cons (pe_callB (call_repr hS.sys (hr.gd) hr.hu) (by rfl) T.n_repr PyProof.Rows.boot_repr (pa_cons (pe_xe (pn := (fun a d C => PnOk K pl a d C)) (fun _ _ _ z => z) (pv 0)) pa_nil)) pa_nil))) pa_nil)))) pss_nil)
      (pss_cons (ps_if (pt_val (pe_callB (call_isG (pn := (fun a d C => PnOk K pl a d C)) (fun _ _ _ z => z)) (by rfl) T.n_isinstance PyProof.Rows.boot_isinstance (pa_cons (pv 0) (pa_cons (pe_glob (v := .ref a.c_Unlike) (by rfl) T.g_Unlike rfl) pa_nil)))) (pss_one (ps_expr (pe_bm PySem.F.plainAttrs_list PySem.F.slot_list_append PySem.F.type_list_append mt_append (pv 1) (pa_cons (pe_tup (pa_cons pe_str (pa_cons (pe_xe (pn := (fun a d C => PnOk K pl a d C)) (fun _ _ _ z => z) (pv 0)) pa_nil))) pa_nil)))) pss_nil)
      (pss_cons (ps_if (pt_val (pe_callB (call_isG (pn := (fun a d C => PnOk K pl a d C)) (fun _ _ _ z => z)) (by rfl) T.n_isinstance PyProof.Rows.boot_isinstance (pa_cons (pv 0) (pa_cons (pe_glob (v := .ref a.c_NotThere) (by rfl) T.g_NotThere rfl) pa_nil)))) (pss_one (ps_expr (pe_bm PySem.F.plainAttrs_list PySem.F.slot_list_append PySem.F.type_list_append mt_append (pv 1) (pa_cons (pe_tup (pa_cons pe_str (pa_cons (pe_xe (pn := (fun a d C => PnOk K pl a d C)) (fun _ _ _ z => z) (pv 0)) pa_nil))) pa_nil)))) pss_nil)
      (pss_cons (ps_if (pt_val (pe_callB (call_isG (pn := (fun a d C => PnOk K pl a d C)) (fun _ _ _ z => z)) (by rfl) T.n_isinstance PyProof.Rows.boot_isinstance (pa_cons (pv 0) (pa_cons (pe_glob (v := .ref a.c_TooMany) (by rfl) T.g_TooMany rfl) pa_nil)))) (pss_one (ps_expr (pe_bm PySem.F.plainAttrs_list PySem.F.slot_list_append PySem.F.type_list_append mt_append (pv 1) (pa_cons (pe_tup (pa_cons pe_str (pa_cons (pe_xe (pn := (fun a d C => PnOk K pl a d C)) (fun _ _ _ z => z) (pv 0)) (pa_cons (pe_xe (pn := (fun a d C => PnOk K pl a d C)) (fun _ _ _ z => z) (pv 0)) (pa_cons (pe_xe (pn := (fun a d C => PnOk K pl a d C)) (fun _ _ _ z => z) (pv 0)) pa_nil))))) pa_nil)))) pss_nil)
      (pss_cons (ps_if (pt_val (pe_callB (call_isG (pn := (fun a d C => PnOk K pl a d C)) (fun _ _ _ z => z)) (by rfl) T.n_isinstance PyProof.Rows.boot_isinstance (pa_cons (pv 0) (pa_cons (pe_glob (v := .ref a.c_NotKept) (by rfl) T.g_NotKept rfl) pa_nil)))) (pss_one (ps_expr (pe_bm PySem.F.plainAttrs_list PySem.F.slot_list_append PySem.F.type_list_append mt_append (pv 1) (pa_cons (pe_tup (pa_cons pe_str (pa_cons (pe_xe (pn := (fun a d C => PnOk K pl a d C)) (fun _ _ _ z => z) (pv 0)) (pa_cons (pe_xe (pn := (fun a d C => PnOk K pl a d C)) (fun _ _ _ z => z) (pv 0)) pa_nil)))) pa_nil)))) pss_nil)
      (pss_cons (ps_if (pt_val (pe_callB (call_isG (pn := (fun a d C => PnOk K pl a d C)) (fun _ _ _ z => z)) (by rfl) T.n_isinstance PyProof.Rows.boot_isinstance (pa_cons (pv 0) (pa_cons (pe_glob (v := .ref a.c_NothingToUndo) (by rfl) T.g_NothingToUndo rfl) pa_nil)))) (pss_one (ps_expr (pe_bm PySem.F.plainAttrs_list PySem.F.slot_list_append PySem.F.type_list_append mt_append (pv 1) (pa_cons (pe_tup (pa_cons pe_str pa_nil)) pa_nil)))) pss_nil)
      (pss_cons (ps_if (pt_val (pe_callB (call_isG (pn := (fun a d C => PnOk K pl a d C)) (fun _ _ _ z => z)) (by rfl) T.n_isinstance PyProof.Rows.boot_isinstance (pa_cons (pv 0) (pa_cons (pe_glob (v := .ref a.c_NothingToRedo) (by rfl) T.g_NothingToRedo rfl) pa_nil)))) (pss_one (ps_expr (pe_bm PySem.F.plainAttrs_list PySem.F.slot_list_append PySem.F.type_list_append mt_append (pv 1) (pa_cons (pe_tup (pa_cons pe_str pa_nil)) pa_nil)))) pss_nil)
      (pss_one (ps_ret (pv 1)))))))))))), fun b ss R X h hX => ?_⟩
  obtain ⟨k, a0, d0, one, two, three, hk, hpn, rfl, h1, h2, hR⟩ := h
  refine ds_seq (ds_own (dn_lst (da_nil ⟨by decide, ?_⟩)))
  have hk' : k = 0 ∨ k = 1 ∨ k = 2 ∨ k = 3 ∨ k = 4 ∨ k = 5 ∨ k = 6 ∨ k = 7 ∨ k = 8 ∨ k = 9 ∨ k = 10 ∨ k = 11 ∨ k = 12 ∨ k = 13 ∨ k = 14 ∨ k = 15 := by omega
  rcases hk' with rfl | rfl | rfl | rfl | rfl | rfl | rfl | rfl | rfl | rfl | rfl | rfl | rfl | rfl | rfl | rfl
  · have hR : R (.lst []) := hR
    have ok2 := h2 (by decide)
    refine ds_seq (ds_isE (a0 := a0) (C := a.c_BadNumber) (d0 := d0) (l0 := kF one two three 0) rfl hpn T.e_BadNumber T.e_NoName (nodup_ne T.ne (i := 0) (j := 9) rfl rfl (by decide)) (fun z => (nodup_ne T.ne (i := 1) (j := 9) rfl rfl (by decide) z).elim) (fun _ => ?_))
    refine ds_seq (ds_isE (a0 := a0) (C := a.c_BadNumber) (d0 := d0) (l0 := kF one two three 0) rfl hpn T.e_BadNumber T.e_TakenName (nodup_ne T.ne (i := 0) (j := 10) rfl rfl (by decide)) (fun z => (nodup_ne T.ne (i := 1) (j := 10) rfl rfl (by decide) z).elim) (fun _ => ?_))
    refine ds_seq (ds_isE (a0 := a0) (C := a.c_BadNumber) (d0 := d0) (l0 := kF one two three 0) rfl hpn T.e_BadNumber T.e_Unlike (nodup_ne T.ne (i := 0) (j := 11) rfl rfl (by decide)) (fun z => (nodup_ne T.ne (i := 1) (j := 11) rfl rfl (by decide) z).elim) (fun _ => ?_))
    refine ds_seq (ds_isE (a0 := a0) (C := a.c_BadNumber) (d0 := d0) (l0 := kF one two three 0) rfl hpn T.e_BadNumber T.e_NotThere (nodup_ne T.ne (i := 0) (j := 12) rfl rfl (by decide)) (fun z => (nodup_ne T.ne (i := 1) (j := 12) rfl rfl (by decide) z).elim) (fun _ => ?_))
    refine ds_seq (ds_isE (a0 := a0) (C := a.c_BadNumber) (d0 := d0) (l0 := kF one two three 0) rfl hpn T.e_BadNumber T.e_TooMany (nodup_ne T.ne (i := 0) (j := 13) rfl rfl (by decide)) (fun z => (nodup_ne T.ne (i := 1) (j := 13) rfl rfl (by decide) z).elim) (fun _ => ?_))
    refine ds_seq (ds_isE (a0 := a0) (C := a.c_BadNumber) (d0 := d0) (l0 := kF one two three 0) rfl hpn T.e_BadNumber T.e_NotKept (nodup_ne T.ne (i := 0) (j := 14) rfl rfl (by decide)) (fun z => (nodup_ne T.ne (i := 1) (j := 14) rfl rfl (by decide) z).elim) (fun _ => ?_))
    refine ds_seq (ds_isE (a0 := a0) (C := a.c_BadNumber) (d0 := d0) (l0 := kF one two three 0) rfl hpn T.e_BadNumber T.e_NothingToUndo (nodup_ne T.ne (i := 0) (j := 15) rfl rfl (by decide)) (fun z => (nodup_ne T.ne (i := 1) (j := 15) rfl rfl (by decide) z).elim) (fun _ => ?_))
    refine ds_seq (ds_isE (a0 := a0) (C := a.c_BadNumber) (d0 := d0) (l0 := kF one two three 0) rfl hpn T.e_BadNumber T.e_NothingToRedo (nodup_ne T.ne (i := 0) (j := 16) rfl rfl (by decide)) (fun z => (nodup_ne T.ne (i := 1) (j := 16) rfl rfl (by decide) z).elim) (fun _ => ?_))
    exact ds_share (i := 1) rfl (ds_ret (de_var rfl hR))
  · have hR : R (.lst []) := hR
    have ok2 := h2 (by decide)
    refine ds_seq (ds_isE (a0 := a0) (C := a.c_BadRow) (d0 := d0) (l0 := kF one two three 1) rfl hpn T.e_BadRow T.e_NoName (nodup_ne T.ne (i := 0) (j := 9) rfl rfl (by decide)) (fun z => (nodup_ne T.ne (i := 2) (j := 9) rfl rfl (by decide) z).elim) (fun _ => ?_))
    refine ds_seq (ds_isE (a0 := a0) (C := a.c_BadRow) (d0 := d0) (l0 := kF one two three 1) rfl hpn T.e_BadRow T.e_TakenName (nodup_ne T.ne (i := 0) (j := 10) rfl rfl (by decide)) (fun z => (nodup_ne T.ne (i := 2) (j := 10) rfl rfl (by decide) z).elim) (fun _ => ?_))
    refine ds_seq (ds_isE (a0 := a0) (C := a.c_BadRow) (d0 := d0) (l0 := kF one two three 1) rfl hpn T.e_BadRow T.e_Unlike (nodup_ne T.ne (i := 0) (j := 11) rfl rfl (by decide)) (fun z => (nodup_ne T.ne (i := 2) (j := 11) rfl rfl (by decide) z).elim) (fun _ => ?_))
    refine ds_seq (ds_isE (a0 := a0) (C := a.c_BadRow) (d0 := d0) (l0 := kF one two three 1) rfl hpn T.e_BadRow T.e_NotThere (nodup_ne T.ne (i := 0) (j := 12) rfl rfl (by decide)) (fun z => (nodup_ne T.ne (i := 2) (j := 12) rfl rfl (by decide) z).elim) (fun _ => ?_))
    refine ds_seq (ds_isE (a0 := a0) (C := a.c_BadRow) (d0 := d0) (l0 := kF one two three 1) rfl hpn T.e_BadRow T.e_TooMany (nodup_ne T.ne (i := 0) (j := 13) rfl rfl (by decide)) (fun z => (nodup_ne T.ne (i := 2) (j := 13) rfl rfl (by decide) z).elim) (fun _ => ?_))
    refine ds_seq (ds_isE (a0 := a0) (C := a.c_BadRow) (d0 := d0) (l0 := kF one two three 1) rfl hpn T.e_BadRow T.e_NotKept (nodup_ne T.ne (i := 0) (j := 14) rfl rfl (by decide)) (fun z => (nodup_ne T.ne (i := 2) (j := 14) rfl rfl (by decide) z).elim) (fun _ => ?_))
    refine ds_seq (ds_isE (a0 := a0) (C := a.c_BadRow) (d0 := d0) (l0 := kF one two three 1) rfl hpn T.e_BadRow T.e_NothingToUndo (nodup_ne T.ne (i := 0) (j := 15) rfl rfl (by decide)) (fun z => (nodup_ne T.ne (i := 2) (j := 15) rfl rfl (by decide) z).elim) (fun _ => ?_))
    refine ds_seq (ds_isE (a0 := a0) (C := a.c_BadRow) (d0 := d0) (l0 := kF one two three 1) rfl hpn T.e_BadRow T.e_NothingToRedo (nodup_ne T.ne (i := 0) (j := 16) rfl rfl (by decide)) (fun z => (nodup_ne T.ne (i := 2) (j := 16) rfl rfl (by decide) z).elim) (fun _ => ?_))
    exact ds_share (i := 1) rfl (ds_ret (de_var rfl hR))
  · have hR : R (.lst []) := hR
    refine ds_seq (ds_isE (a0 := a0) (C := a.c_BadTable) (d0 := d0) (l0 := kF one two three 2) rfl hpn T.e_BadTable T.e_NoName (nodup_ne T.ne (i := 0) (j := 9) rfl rfl (by decide)) (fun z => (nodup_ne T.ne (i := 3) (j := 9) rfl rfl (by decide) z).elim) (fun _ => ?_))
    refine ds_seq (ds_isE (a0 := a0) (C := a.c_BadTable) (d0 := d0) (l0 := kF one two three 2) rfl hpn T.e_BadTable T.e_TakenName (nodup_ne T.ne (i := 0) (j := 10) rfl rfl (by decide)) (fun z => (nodup_ne T.ne (i := 3) (j := 10) rfl rfl (by decide) z).elim) (fun _ => ?_))
    refine ds_seq (ds_isE (a0 := a0) (C := a.c_BadTable) (d0 := d0) (l0 := kF one two three 2) rfl hpn T.e_BadTable T.e_Unlike (nodup_ne T.ne (i := 0) (j := 11) rfl rfl (by decide)) (fun z => (nodup_ne T.ne (i := 3) (j := 11) rfl rfl (by decide) z).elim) (fun _ => ?_))
    refine ds_seq (ds_isE (a0 := a0) (C := a.c_BadTable) (d0 := d0) (l0 := kF one two three 2) rfl hpn T.e_BadTable T.e_NotThere (nodup_ne T.ne (i := 0) (j := 12) rfl rfl (by decide)) (fun z => (nodup_ne T.ne (i := 3) (j := 12) rfl rfl (by decide) z).elim) (fun _ => ?_))
    refine ds_seq (ds_isE (a0 := a0) (C := a.c_BadTable) (d0 := d0) (l0 := kF one two three 2) rfl hpn T.e_BadTable T.e_TooMany (nodup_ne T.ne (i := 0) (j := 13) rfl rfl (by decide)) (fun z => (nodup_ne T.ne (i := 3) (j := 13) rfl rfl (by decide) z).elim) (fun _ => ?_))
    refine ds_seq (ds_isE (a0 := a0) (C := a.c_BadTable) (d0 := d0) (l0 := kF one two three 2) rfl hpn T.e_BadTable T.e_NotKept (nodup_ne T.ne (i := 0) (j := 14) rfl rfl (by decide)) (fun z => (nodup_ne T.ne (i := 3) (j := 14) rfl rfl (by decide) z).elim) (fun _ => ?_))
    refine ds_seq (ds_isE (a0 := a0) (C := a.c_BadTable) (d0 := d0) (l0 := kF one two three 2) rfl hpn T.e_BadTable T.e_NothingToUndo (nodup_ne T.ne (i := 0) (j := 15) rfl rfl (by decide)) (fun z => (nodup_ne T.ne (i := 3) (j := 15) rfl rfl (by decide) z).elim) (fun _ => ?_))
    refine ds_seq (ds_isE (a0 := a0) (C := a.c_BadTable) (d0 := d0) (l0 := kF one two three 2) rfl hpn T.e_BadTable T.e_NothingToRedo (nodup_ne T.ne (i := 0) (j := 16) rfl rfl (by decide)) (fun z => (nodup_ne T.ne (i := 3) (j := 16) rfl rfl (by decide) z).elim) (fun _ => ?_))
    exact ds_share (i := 1) rfl (ds_ret (de_var rfl hR))
  · have hR : R (.lst []) := hR
    refine ds_seq (ds_isE (a0 := a0) (C := a.c_BadForm) (d0 := d0) (l0 := kF one two three 3) rfl hpn T.e_BadForm T.e_NoName (nodup_ne T.ne (i := 0) (j := 9) rfl rfl (by decide)) (fun z => (nodup_ne T.ne (i := 4) (j := 9) rfl rfl (by decide) z).elim) (fun _ => ?_))
    refine ds_seq (ds_isE (a0 := a0) (C := a.c_BadForm) (d0 := d0) (l0 := kF one two three 3) rfl hpn T.e_BadForm T.e_TakenName (nodup_ne T.ne (i := 0) (j := 10) rfl rfl (by decide)) (fun z => (nodup_ne T.ne (i := 4) (j := 10) rfl rfl (by decide) z).elim) (fun _ => ?_))
    refine ds_seq (ds_isE (a0 := a0) (C := a.c_BadForm) (d0 := d0) (l0 := kF one two three 3) rfl hpn T.e_BadForm T.e_Unlike (nodup_ne T.ne (i := 0) (j := 11) rfl rfl (by decide)) (fun z => (nodup_ne T.ne (i := 4) (j := 11) rfl rfl (by decide) z).elim) (fun _ => ?_))
    refine ds_seq (ds_isE (a0 := a0) (C := a.c_BadForm) (d0 := d0) (l0 := kF one two three 3) rfl hpn T.e_BadForm T.e_NotThere (nodup_ne T.ne (i := 0) (j := 12) rfl rfl (by decide)) (fun z => (nodup_ne T.ne (i := 4) (j := 12) rfl rfl (by decide) z).elim) (fun _ => ?_))
    refine ds_seq (ds_isE (a0 := a0) (C := a.c_BadForm) (d0 := d0) (l0 := kF one two three 3) rfl hpn T.e_BadForm T.e_TooMany (nodup_ne T.ne (i := 0) (j := 13) rfl rfl (by decide)) (fun z => (nodup_ne T.ne (i := 4) (j := 13) rfl rfl (by decide) z).elim) (fun _ => ?_))
    refine ds_seq (ds_isE (a0 := a0) (C := a.c_BadForm) (d0 := d0) (l0 := kF one two three 3) rfl hpn T.e_BadForm T.e_NotKept (nodup_ne T.ne (i := 0) (j := 14) rfl rfl (by decide)) (fun z => (nodup_ne T.ne (i := 4) (j := 14) rfl rfl (by decide) z).elim) (fun _ => ?_))
    refine ds_seq (ds_isE (a0 := a0) (C := a.c_BadForm) (d0 := d0) (l0 := kF one two three 3) rfl hpn T.e_BadForm T.e_NothingToUndo (nodup_ne T.ne (i := 0) (j := 15) rfl rfl (by decide)) (fun z => (nodup_ne T.ne (i := 4) (j := 15) rfl rfl (by decide) z).elim) (fun _ => ?_))
    refine ds_seq (ds_isE (a0 := a0) (C := a.c_BadForm) (d0 := d0) (l0 := kF one two three 3) rfl hpn T.e_BadForm T.e_NothingToRedo (nodup_ne T.ne (i := 0) (j := 16) rfl rfl (by decide)) (fun z => (nodup_ne T.ne (i := 4) (j := 16) rfl rfl (by decide) z).elim) (fun _ => ?_))
    exact ds_share (i := 1) rfl (ds_ret (de_var rfl hR))
  · have hR : R (.lst []) := hR
    refine ds_seq (ds_isE (a0 := a0) (C := a.c_BadBook) (d0 := d0) (l0 := kF one two three 4) rfl hpn T.e_BadBook T.e_NoName (nodup_ne T.ne (i := 0) (j := 9) rfl rfl (by decide)) (fun z => (nodup_ne T.ne (i := 5) (j := 9) rfl rfl (by decide) z).elim) (fun _ => ?_))
    refine ds_seq (ds_isE (a0 := a0) (C := a.c_BadBook) (d0 := d0) (l0 := kF one two three 4) rfl hpn T.e_BadBook T.e_TakenName (nodup_ne T.ne (i := 0) (j := 10) rfl rfl (by decide)) (fun z => (nodup_ne T.ne (i := 5) (j := 10) rfl rfl (by decide) z).elim) (fun _ => ?_))
    refine ds_seq (ds_isE (a0 := a0) (C := a.c_BadBook) (d0 := d0) (l0 := kF one two three 4) rfl hpn T.e_BadBook T.e_Unlike (nodup_ne T.ne (i := 0) (j := 11) rfl rfl (by decide)) (fun z => (nodup_ne T.ne (i := 5) (j := 11) rfl rfl (by decide) z).elim) (fun _ => ?_))
    refine ds_seq (ds_isE (a0 := a0) (C := a.c_BadBook) (d0 := d0) (l0 := kF one two three 4) rfl hpn T.e_BadBook T.e_NotThere (nodup_ne T.ne (i := 0) (j := 12) rfl rfl (by decide)) (fun z => (nodup_ne T.ne (i := 5) (j := 12) rfl rfl (by decide) z).elim) (fun _ => ?_))
    refine ds_seq (ds_isE (a0 := a0) (C := a.c_BadBook) (d0 := d0) (l0 := kF one two three 4) rfl hpn T.e_BadBook T.e_TooMany (nodup_ne T.ne (i := 0) (j := 13) rfl rfl (by decide)) (fun z => (nodup_ne T.ne (i := 5) (j := 13) rfl rfl (by decide) z).elim) (fun _ => ?_))
    refine ds_seq (ds_isE (a0 := a0) (C := a.c_BadBook) (d0 := d0) (l0 := kF one two three 4) rfl hpn T.e_BadBook T.e_NotKept (nodup_ne T.ne (i := 0) (j := 14) rfl rfl (by decide)) (fun z => (nodup_ne T.ne (i := 5) (j := 14) rfl rfl (by decide) z).elim) (fun _ => ?_))
    refine ds_seq (ds_isE (a0 := a0) (C := a.c_BadBook) (d0 := d0) (l0 := kF one two three 4) rfl hpn T.e_BadBook T.e_NothingToUndo (nodup_ne T.ne (i := 0) (j := 15) rfl rfl (by decide)) (fun z => (nodup_ne T.ne (i := 5) (j := 15) rfl rfl (by decide) z).elim) (fun _ => ?_))
    refine ds_seq (ds_isE (a0 := a0) (C := a.c_BadBook) (d0 := d0) (l0 := kF one two three 4) rfl hpn T.e_BadBook T.e_NothingToRedo (nodup_ne T.ne (i := 0) (j := 16) rfl rfl (by decide)) (fun z => (nodup_ne T.ne (i := 5) (j := 16) rfl rfl (by decide) z).elim) (fun _ => ?_))
    exact ds_share (i := 1) rfl (ds_ret (de_var rfl hR))
  · have hR : R (.lst []) := hR
    have ok1 := h1 (by decide)
    refine ds_seq (ds_isE (a0 := a0) (C := a.c_BadName) (d0 := d0) (l0 := kF one two three 5) rfl hpn T.e_BadName T.e_NoName (nodup_ne T.ne (i := 0) (j := 9) rfl rfl (by decide)) (fun z => (nodup_ne T.ne (i := 6) (j := 9) rfl rfl (by decide) z).elim) (fun _ => ?_))
    refine ds_seq (ds_isE (a0 := a0) (C := a.c_BadName) (d0 := d0) (l0 := kF one two three 5) rfl hpn T.e_BadName T.e_TakenName (nodup_ne T.ne (i := 0) (j := 10) rfl rfl (by decide)) (fun z => (nodup_ne T.ne (i := 6) (j := 10) rfl rfl (by decide) z).elim) (fun _ => ?_))
    refine ds_seq (ds_isE (a0 := a0) (C := a.c_BadName) (d0 := d0) (l0 := kF one two three 5) rfl hpn T.e_BadName T.e_Unlike (nodup_ne T.ne (i := 0) (j := 11) rfl rfl (by decide)) (fun z => (nodup_ne T.ne (i := 6) (j := 11) rfl rfl (by decide) z).elim) (fun _ => ?_))
    refine ds_seq (ds_isE (a0 := a0) (C := a.c_BadName) (d0 := d0) (l0 := kF one two three 5) rfl hpn T.e_BadName T.e_NotThere (nodup_ne T.ne (i := 0) (j := 12) rfl rfl (by decide)) (fun z => (nodup_ne T.ne (i := 6) (j := 12) rfl rfl (by decide) z).elim) (fun _ => ?_))
    refine ds_seq (ds_isE (a0 := a0) (C := a.c_BadName) (d0 := d0) (l0 := kF one two three 5) rfl hpn T.e_BadName T.e_TooMany (nodup_ne T.ne (i := 0) (j := 13) rfl rfl (by decide)) (fun z => (nodup_ne T.ne (i := 6) (j := 13) rfl rfl (by decide) z).elim) (fun _ => ?_))
    refine ds_seq (ds_isE (a0 := a0) (C := a.c_BadName) (d0 := d0) (l0 := kF one two three 5) rfl hpn T.e_BadName T.e_NotKept (nodup_ne T.ne (i := 0) (j := 14) rfl rfl (by decide)) (fun z => (nodup_ne T.ne (i := 6) (j := 14) rfl rfl (by decide) z).elim) (fun _ => ?_))
    refine ds_seq (ds_isE (a0 := a0) (C := a.c_BadName) (d0 := d0) (l0 := kF one two three 5) rfl hpn T.e_BadName T.e_NothingToUndo (nodup_ne T.ne (i := 0) (j := 15) rfl rfl (by decide)) (fun z => (nodup_ne T.ne (i := 6) (j := 15) rfl rfl (by decide) z).elim) (fun _ => ?_))
    refine ds_seq (ds_isE (a0 := a0) (C := a.c_BadName) (d0 := d0) (l0 := kF one two three 5) rfl hpn T.e_BadName T.e_NothingToRedo (nodup_ne T.ne (i := 0) (j := 16) rfl rfl (by decide)) (fun z => (nodup_ne T.ne (i := 6) (j := 16) rfl rfl (by decide) z).elim) (fun _ => ?_))
    exact ds_share (i := 1) rfl (ds_ret (de_var rfl hR))
  · have hR : R (.lst []) := hR
    refine ds_seq (ds_isE (a0 := a0) (C := a.c_BadText) (d0 := d0) (l0 := kF one two three 6) rfl hpn T.e_BadText T.e_NoName (nodup_ne T.ne (i := 0) (j := 9) rfl rfl (by decide)) (fun z => (nodup_ne T.ne (i := 7) (j := 9) rfl rfl (by decide) z).elim) (fun _ => ?_))
    refine ds_seq (ds_isE (a0 := a0) (C := a.c_BadText) (d0 := d0) (l0 := kF one two three 6) rfl hpn T.e_BadText T.e_TakenName (nodup_ne T.ne (i := 0) (j := 10) rfl rfl (by decide)) (fun z => (nodup_ne T.ne (i := 7) (j := 10) rfl rfl (by decide) z).elim) (fun _ => ?_))
    refine ds_seq (ds_isE (a0 := a0) (C := a.c_BadText) (d0 := d0) (l0 := kF one two three 6) rfl hpn T.e_BadText T.e_Unlike (nodup_ne T.ne (i := 0) (j := 11) rfl rfl (by decide)) (fun z => (nodup_ne T.ne (i := 7) (j := 11) rfl rfl (by decide) z).elim) (fun _ => ?_))
    refine ds_seq (ds_isE (a0 := a0) (C := a.c_BadText) (d0 := d0) (l0 := kF one two three 6) rfl hpn T.e_BadText T.e_NotThere (nodup_ne T.ne (i := 0) (j := 12) rfl rfl (by decide)) (fun z => (nodup_ne T.ne (i := 7) (j := 12) rfl rfl (by decide) z).elim) (fun _ => ?_))
    refine ds_seq (ds_isE (a0 := a0) (C := a.c_BadText) (d0 := d0) (l0 := kF one two three 6) rfl hpn T.e_BadText T.e_TooMany (nodup_ne T.ne (i := 0) (j := 13) rfl rfl (by decide)) (fun z => (nodup_ne T.ne (i := 7) (j := 13) rfl rfl (by decide) z).elim) (fun _ => ?_))
    refine ds_seq (ds_isE (a0 := a0) (C := a.c_BadText) (d0 := d0) (l0 := kF one two three 6) rfl hpn T.e_BadText T.e_NotKept (nodup_ne T.ne (i := 0) (j := 14) rfl rfl (by decide)) (fun z => (nodup_ne T.ne (i := 7) (j := 14) rfl rfl (by decide) z).elim) (fun _ => ?_))
    refine ds_seq (ds_isE (a0 := a0) (C := a.c_BadText) (d0 := d0) (l0 := kF one two three 6) rfl hpn T.e_BadText T.e_NothingToUndo (nodup_ne T.ne (i := 0) (j := 15) rfl rfl (by decide)) (fun z => (nodup_ne T.ne (i := 7) (j := 15) rfl rfl (by decide) z).elim) (fun _ => ?_))
    refine ds_seq (ds_isE (a0 := a0) (C := a.c_BadText) (d0 := d0) (l0 := kF one two three 6) rfl hpn T.e_BadText T.e_NothingToRedo (nodup_ne T.ne (i := 0) (j := 16) rfl rfl (by decide)) (fun z => (nodup_ne T.ne (i := 7) (j := 16) rfl rfl (by decide) z).elim) (fun _ => ?_))
    exact ds_share (i := 1) rfl (ds_ret (de_var rfl hR))
  · have hR : R (.lst []) := hR
    have ok2 := h2 (by decide)
    refine ds_seq (ds_isE (a0 := a0) (C := a.c_NoPlace) (d0 := d0) (l0 := kF one two three 7) rfl hpn T.e_NoPlace T.e_NoName (nodup_ne T.ne (i := 0) (j := 9) rfl rfl (by decide)) (fun z => (nodup_ne T.ne (i := 8) (j := 9) rfl rfl (by decide) z).elim) (fun _ => ?_))
    refine ds_seq (ds_isE (a0 := a0) (C := a.c_NoPlace) (d0 := d0) (l0 := kF one two three 7) rfl hpn T.e_NoPlace T.e_TakenName (nodup_ne T.ne (i := 0) (j := 10) rfl rfl (by decide)) (fun z => (nodup_ne T.ne (i := 8) (j := 10) rfl rfl (by decide) z).elim) (fun _ => ?_))
    refine ds_seq (ds_isE (a0 := a0) (C := a.c_NoPlace) (d0 := d0) (l0 := kF one two three 7) rfl hpn T.e_NoPlace T.e_Unlike (nodup_ne T.ne (i := 0) (j := 11) rfl rfl (by decide)) (fun z => (nodup_ne T.ne (i := 8) (j := 11) rfl rfl (by decide) z).elim) (fun _ => ?_))
    refine ds_seq (ds_isE (a0 := a0) (C := a.c_NoPlace) (d0 := d0) (l0 := kF one two three 7) rfl hpn T.e_NoPlace T.e_NotThere (nodup_ne T.ne (i := 0) (j := 12) rfl rfl (by decide)) (fun z => (nodup_ne T.ne (i := 8) (j := 12) rfl rfl (by decide) z).elim) (fun _ => ?_))
    refine ds_seq (ds_isE (a0 := a0) (C := a.c_NoPlace) (d0 := d0) (l0 := kF one two three 7) rfl hpn T.e_NoPlace T.e_TooMany (nodup_ne T.ne (i := 0) (j := 13) rfl rfl (by decide)) (fun z => (nodup_ne T.ne (i := 8) (j := 13) rfl rfl (by decide) z).elim) (fun _ => ?_))
    refine ds_seq (ds_isE (a0 := a0) (C := a.c_NoPlace) (d0 := d0) (l0 := kF one two three 7) rfl hpn T.e_NoPlace T.e_NotKept (nodup_ne T.ne (i := 0) (j := 14) rfl rfl (by decide)) (fun z => (nodup_ne T.ne (i := 8) (j := 14) rfl rfl (by decide) z).elim) (fun _ => ?_))
    refine ds_seq (ds_isE (a0 := a0) (C := a.c_NoPlace) (d0 := d0) (l0 := kF one two three 7) rfl hpn T.e_NoPlace T.e_NothingToUndo (nodup_ne T.ne (i := 0) (j := 15) rfl rfl (by decide)) (fun z => (nodup_ne T.ne (i := 8) (j := 15) rfl rfl (by decide) z).elim) (fun _ => ?_))
    refine ds_seq (ds_isE (a0 := a0) (C := a.c_NoPlace) (d0 := d0) (l0 := kF one two three 7) rfl hpn T.e_NoPlace T.e_NothingToRedo (nodup_ne T.ne (i := 0) (j := 16) rfl rfl (by decide)) (fun z => (nodup_ne T.ne (i := 8) (j := 16) rfl rfl (by decide) z).elim) (fun _ => ?_))
    exact ds_share (i := 1) rfl (ds_ret (de_var rfl hR))
  · have hR : R (.lst [kT one two three 8]) := hR
    have ok1 := h1 (by decide)
    refine ds_seq (ds_isE (a0 := a0) (C := a.c_NoName) (d0 := d0) (l0 := kF one two three 8) rfl hpn T.e_NoName T.e_NoName (nodup_ne T.ne (i := 0) (j := 9) rfl rfl (by decide)) (fun _ => ds_app rfl (de_tup (da_cons (de_str (da_cons (de_repr (de_xe (de_var rfl ⟨a0, d0, a.c_NoName, kF one two three 8, one, rfl, hpn, T.no_NoName_name, rfl, ok1, da_nil ⟨by simp, (show 0 < 16000 by decide), ?_⟩⟩)))))))) (fun z => (z rfl).elim))
    refine ds_seq (ds_isE (a0 := a0) (C := a.c_NoName) (d0 := d0) (l0 := kF one two three 8) rfl hpn T.e_NoName T.e_TakenName (nodup_ne T.ne (i := 0) (j := 10) rfl rfl (by decide)) (fun z => (nodup_ne T.ne (i := 9) (j := 10) rfl rfl (by decide) z).elim) (fun _ => ?_))
    refine ds_seq (ds_isE (a0 := a0) (C := a.c_NoName) (d0 := d0) (l0 := kF one two three 8) rfl hpn T.e_NoName T.e_Unlike (nodup_ne T.ne (i := 0) (j := 11) rfl rfl (by decide)) (fun z => (nodup_ne T.ne (i := 9) (j := 11) rfl rfl (by decide) z).elim) (fun _ => ?_))
    refine ds_seq (ds_isE (a0 := a0) (C := a.c_NoName) (d0 := d0) (l0 := kF one two three 8) rfl hpn T.e_NoName T.e_NotThere (nodup_ne T.ne (i := 0) (j := 12) rfl rfl (by decide)) (fun z => (nodup_ne T.ne (i := 9) (j := 12) rfl rfl (by decide) z).elim) (fun _ => ?_))
    refine ds_seq (ds_isE (a0 := a0) (C := a.c_NoName) (d0 := d0) (l0 := kF one two three 8) rfl hpn T.e_NoName T.e_TooMany (nodup_ne T.ne (i := 0) (j := 13) rfl rfl (by decide)) (fun z => (nodup_ne T.ne (i := 9) (j := 13) rfl rfl (by decide) z).elim) (fun _ => ?_))
    refine ds_seq (ds_isE (a0 := a0) (C := a.c_NoName) (d0 := d0) (l0 := kF one two three 8) rfl hpn T.e_NoName T.e_NotKept (nodup_ne T.ne (i := 0) (j := 14) rfl rfl (by decide)) (fun z => (nodup_ne T.ne (i := 9) (j := 14) rfl rfl (by decide) z).elim) (fun _ => ?_))
    refine ds_seq (ds_isE (a0 := a0) (C := a.c_NoName) (d0 := d0) (l0 := kF one two three 8) rfl hpn T.e_NoName T.e_NothingToUndo (nodup_ne T.ne (i := 0) (j := 15) rfl rfl (by decide)) (fun z => (nodup_ne T.ne (i := 9) (j := 15) rfl rfl (by decide) z).elim) (fun _ => ?_))
    refine ds_seq (ds_isE (a0 := a0) (C := a.c_NoName) (d0 := d0) (l0 := kF one two three 8) rfl hpn T.e_NoName T.e_NothingToRedo (nodup_ne T.ne (i := 0) (j := 16) rfl rfl (by decide)) (fun z => (nodup_ne T.ne (i := 9) (j := 16) rfl rfl (by decide) z).elim) (fun _ => ?_))
    exact ds_share (i := 1) rfl (ds_ret (de_var rfl hR))
  · have hR : R (.lst [kT one two three 9]) := hR
    have ok1 := h1 (by decide)
    refine ds_seq (ds_isE (a0 := a0) (C := a.c_TakenName) (d0 := d0) (l0 := kF one two three 9) rfl hpn T.e_TakenName T.e_NoName (nodup_ne T.ne (i := 0) (j := 9) rfl rfl (by decide)) (fun z => (nodup_ne T.ne (i := 10) (j := 9) rfl rfl (by decide) z).elim) (fun _ => ?_))
    refine ds_seq (ds_isE (a0 := a0) (C := a.c_TakenName) (d0 := d0) (l0 := kF one two three 9) rfl hpn T.e_TakenName T.e_TakenName (nodup_ne T.ne (i := 0) (j := 10) rfl rfl (by decide)) (fun _ => ds_app rfl (de_tup (da_cons (de_str (da_cons (de_repr (de_xe (de_var rfl ⟨a0, d0, a.c_TakenName, kF one two three 9, one, rfl, hpn, T.no_TakenName_name, rfl, ok1, da_nil ⟨by simp, (show 0 < 16000 by decide), ?_⟩⟩)))))))) (fun z => (z rfl).elim))
    refine ds_seq (ds_isE (a0 := a0) (C := a.c_TakenName) (d0 := d0) (l0 := kF one two three 9) rfl hpn T.e_TakenName T.e_Unlike (nodup_ne T.ne (i := 0) (j := 11) rfl rfl (by decide)) (fun z => (nodup_ne T.ne (i := 10) (j := 11) rfl rfl (by decide) z).elim) (fun _ => ?_))
    refine ds_seq (ds_isE (a0 := a0) (C := a.c_TakenName) (d0 := d0) (l0 := kF one two three 9) rfl hpn T.e_TakenName T.e_NotThere (nodup_ne T.ne (i := 0) (j := 12) rfl rfl (by decide)) (fun z => (nodup_ne T.ne (i := 10) (j := 12) rfl rfl (by decide) z).elim) (fun _ => ?_))
    refine ds_seq (ds_isE (a0 := a0) (C := a.c_TakenName) (d0 := d0) (l0 := kF one two three 9) rfl hpn T.e_TakenName T.e_TooMany (nodup_ne T.ne (i := 0) (j := 13) rfl rfl (by decide)) (fun z => (nodup_ne T.ne (i := 10) (j := 13) rfl rfl (by decide) z).elim) (fun _ => ?_))
    refine ds_seq (ds_isE (a0 := a0) (C := a.c_TakenName) (d0 := d0) (l0 := kF one two three 9) rfl hpn T.e_TakenName T.e_NotKept (nodup_ne T.ne (i := 0) (j := 14) rfl rfl (by decide)) (fun z => (nodup_ne T.ne (i := 10) (j := 14) rfl rfl (by decide) z).elim) (fun _ => ?_))
    refine ds_seq (ds_isE (a0 := a0) (C := a.c_TakenName) (d0 := d0) (l0 := kF one two three 9) rfl hpn T.e_TakenName T.e_NothingToUndo (nodup_ne T.ne (i := 0) (j := 15) rfl rfl (by decide)) (fun z => (nodup_ne T.ne (i := 10) (j := 15) rfl rfl (by decide) z).elim) (fun _ => ?_))
    refine ds_seq (ds_isE (a0 := a0) (C := a.c_TakenName) (d0 := d0) (l0 := kF one two three 9) rfl hpn T.e_TakenName T.e_NothingToRedo (nodup_ne T.ne (i := 0) (j := 16) rfl rfl (by decide)) (fun z => (nodup_ne T.ne (i := 10) (j := 16) rfl rfl (by decide) z).elim) (fun _ => ?_))
    exact ds_share (i := 1) rfl (ds_ret (de_var rfl hR))
  · have hR : R (.lst [kT one two three 10]) := hR
    refine ds_seq (ds_isE (a0 := a0) (C := a.c_Unlike) (d0 := d0) (l0 := kF one two three 10) rfl hpn T.e_Unlike T.e_NoName (nodup_ne T.ne (i := 0) (j := 9) rfl rfl (by decide)) (fun z => (nodup_ne T.ne (i := 11) (j := 9) rfl rfl (by decide) z).elim) (fun _ => ?_))
    refine ds_seq (ds_isE (a0 := a0) (C := a.c_Unlike) (d0 := d0) (l0 := kF one two three 10) rfl hpn T.e_Unlike T.e_TakenName (nodup_ne T.ne (i := 0) (j := 10) rfl rfl (by decide)) (fun z => (nodup_ne T.ne (i := 11) (j := 10) rfl rfl (by decide) z).elim) (fun _ => ?_))
    refine ds_seq (ds_isE (a0 := a0) (C := a.c_Unlike) (d0 := d0) (l0 := kF one two three 10) rfl hpn T.e_Unlike T.e_Unlike (nodup_ne T.ne (i := 0) (j := 11) rfl rfl (by decide)) (fun _ => ds_app rfl (de_tup (da_cons (de_str (da_cons (de_xe (de_var rfl ⟨a0, d0, a.c_Unlike, kF one two three 10, one, rfl, hpn, T.no_Unlike_what, rfl, da_nil ⟨by simp, (show 0 < 16000 by decide), ?_⟩⟩))))))) (fun z => (z rfl).elim))
    refine ds_seq (ds_isE (a0 := a0) (C := a.c_Unlike) (d0 := d0) (l0 := kF one two three 10) rfl hpn T.e_Unlike T.e_NotThere (nodup_ne T.ne (i := 0) (j := 12) rfl rfl (by decide)) (fun z => (nodup_ne T.ne (i := 11) (j := 12) rfl rfl (by decide) z).elim) (fun _ => ?_))
    refine ds_seq (ds_isE (a0 := a0) (C := a.c_Unlike) (d0 := d0) (l0 := kF one two three 10) rfl hpn T.e_Unlike T.e_TooMany (nodup_ne T.ne (i := 0) (j := 13) rfl rfl (by decide)) (fun z => (nodup_ne T.ne (i := 11) (j := 13) rfl rfl (by decide) z).elim) (fun _ => ?_))
    refine ds_seq (ds_isE (a0 := a0) (C := a.c_Unlike) (d0 := d0) (l0 := kF one two three 10) rfl hpn T.e_Unlike T.e_NotKept (nodup_ne T.ne (i := 0) (j := 14) rfl rfl (by decide)) (fun z => (nodup_ne T.ne (i := 11) (j := 14) rfl rfl (by decide) z).elim) (fun _ => ?_))
    refine ds_seq (ds_isE (a0 := a0) (C := a.c_Unlike) (d0 := d0) (l0 := kF one two three 10) rfl hpn T.e_Unlike T.e_NothingToUndo (nodup_ne T.ne (i := 0) (j := 15) rfl rfl (by decide)) (fun z => (nodup_ne T.ne (i := 11) (j := 15) rfl rfl (by decide) z).elim) (fun _ => ?_))
    refine ds_seq (ds_isE (a0 := a0) (C := a.c_Unlike) (d0 := d0) (l0 := kF one two three 10) rfl hpn T.e_Unlike T.e_NothingToRedo (nodup_ne T.ne (i := 0) (j := 16) rfl rfl (by decide)) (fun z => (nodup_ne T.ne (i := 11) (j := 16) rfl rfl (by decide) z).elim) (fun _ => ?_))
    exact ds_share (i := 1) rfl (ds_ret (de_var rfl hR))
  · have hR : R (.lst [kT one two three 11]) := hR
    refine ds_seq (ds_isE (a0 := a0) (C := a.c_NotThere) (d0 := d0) (l0 := kF one two three 11) rfl hpn T.e_NotThere T.e_NoName (nodup_ne T.ne (i := 0) (j := 9) rfl rfl (by decide)) (fun z => (nodup_ne T.ne (i := 12) (j := 9) rfl rfl (by decide) z).elim) (fun _ => ?_))
    refine ds_seq (ds_isE (a0 := a0) (C := a.c_NotThere) (d0 := d0) (l0 := kF one two three 11) rfl hpn T.e_NotThere T.e_TakenName (nodup_ne T.ne (i := 0) (j := 10) rfl rfl (by decide)) (fun z => (nodup_ne T.ne (i := 12) (j := 10) rfl rfl (by decide) z).elim) (fun _ => ?_))
    refine ds_seq (ds_isE (a0 := a0) (C := a.c_NotThere) (d0 := d0) (l0 := kF one two three 11) rfl hpn T.e_NotThere T.e_Unlike (nodup_ne T.ne (i := 0) (j := 11) rfl rfl (by decide)) (fun z => (nodup_ne T.ne (i := 12) (j := 11) rfl rfl (by decide) z).elim) (fun _ => ?_))
    refine ds_seq (ds_isE (a0 := a0) (C := a.c_NotThere) (d0 := d0) (l0 := kF one two three 11) rfl hpn T.e_NotThere T.e_NotThere (nodup_ne T.ne (i := 0) (j := 12) rfl rfl (by decide)) (fun _ => ds_app rfl (de_tup (da_cons (de_str (da_cons (de_xe (de_var rfl ⟨a0, d0, a.c_NotThere, kF one two three 11, one, rfl, hpn, T.no_NotThere_paper, rfl, da_nil ⟨by simp, (show 0 < 16000 by decide), ?_⟩⟩))))))) (fun z => (z rfl).elim))
    refine ds_seq (ds_isE (a0 := a0) (C := a.c_NotThere) (d0 := d0) (l0 := kF one two three 11) rfl hpn T.e_NotThere T.e_TooMany (nodup_ne T.ne (i := 0) (j := 13) rfl rfl (by decide)) (fun z => (nodup_ne T.ne (i := 12) (j := 13) rfl rfl (by decide) z).elim) (fun _ => ?_))
    refine ds_seq (ds_isE (a0 := a0) (C := a.c_NotThere) (d0 := d0) (l0 := kF one two three 11) rfl hpn T.e_NotThere T.e_NotKept (nodup_ne T.ne (i := 0) (j := 14) rfl rfl (by decide)) (fun z => (nodup_ne T.ne (i := 12) (j := 14) rfl rfl (by decide) z).elim) (fun _ => ?_))
    refine ds_seq (ds_isE (a0 := a0) (C := a.c_NotThere) (d0 := d0) (l0 := kF one two three 11) rfl hpn T.e_NotThere T.e_NothingToUndo (nodup_ne T.ne (i := 0) (j := 15) rfl rfl (by decide)) (fun z => (nodup_ne T.ne (i := 12) (j := 15) rfl rfl (by decide) z).elim) (fun _ => ?_))
    refine ds_seq (ds_isE (a0 := a0) (C := a.c_NotThere) (d0 := d0) (l0 := kF one two three 11) rfl hpn T.e_NotThere T.e_NothingToRedo (nodup_ne T.ne (i := 0) (j := 16) rfl rfl (by decide)) (fun z => (nodup_ne T.ne (i := 12) (j := 16) rfl rfl (by decide) z).elim) (fun _ => ?_))
    exact ds_share (i := 1) rfl (ds_ret (de_var rfl hR))
  · have hR : R (.lst [kT one two three 12]) := hR
    refine ds_seq (ds_isE (a0 := a0) (C := a.c_TooMany) (d0 := d0) (l0 := kF one two three 12) rfl hpn T.e_TooMany T.e_NoName (nodup_ne T.ne (i := 0) (j := 9) rfl rfl (by decide)) (fun z => (nodup_ne T.ne (i := 13) (j := 9) rfl rfl (by decide) z).elim) (fun _ => ?_))
    refine ds_seq (ds_isE (a0 := a0) (C := a.c_TooMany) (d0 := d0) (l0 := kF one two three 12) rfl hpn T.e_TooMany T.e_TakenName (nodup_ne T.ne (i := 0) (j := 10) rfl rfl (by decide)) (fun z => (nodup_ne T.ne (i := 13) (j := 10) rfl rfl (by decide) z).elim) (fun _ => ?_))
    refine ds_seq (ds_isE (a0 := a0) (C := a.c_TooMany) (d0 := d0) (l0 := kF one two three 12) rfl hpn T.e_TooMany T.e_Unlike (nodup_ne T.ne (i := 0) (j := 11) rfl rfl (by decide)) (fun z => (nodup_ne T.ne (i := 13) (j := 11) rfl rfl (by decide) z).elim) (fun _ => ?_))
    refine ds_seq (ds_isE (a0 := a0) (C := a.c_TooMany) (d0 := d0) (l0 := kF one two three 12) rfl hpn T.e_TooMany T.e_NotThere (nodup_ne T.ne (i := 0) (j := 12) rfl rfl (by decide)) (fun z => (nodup_ne T.ne (i := 13) (j := 12) rfl rfl (by decide) z).elim) (fun _ => ?_))
    refine ds_seq (ds_isE (a0 := a0) (C := a.c_TooMany) (d0 := d0) (l0 := kF one two three 12) rfl hpn T.e_TooMany T.e_TooMany (nodup_ne T.ne (i := 0) (j := 13) rfl rfl (by decide)) (fun _ => ds_app rfl (de_tup (da_cons (de_str (da_cons (de_xe (de_var rfl ⟨a0, d0, a.c_TooMany, kF one two three 12, one, rfl, hpn, T.no_TooMany_what, rfl, da_cons (de_xe (de_var rfl ⟨a0, d0, a.c_TooMany, kF one two three 12, two, rfl, hpn, T.no_TooMany_many, rfl, da_cons (de_xe (de_var rfl ⟨a0, d0, a.c_TooMany, kF one two three 12, three, rfl, hpn, T.no_TooMany_limit, rfl, da_nil ⟨by simp, (show 0 < 16000 by decide), ?_⟩⟩))⟩))⟩))))))) (fun z => (z rfl).elim))
    refine ds_seq (ds_isE (a0 := a0) (C := a.c_TooMany) (d0 := d0) (l0 := kF one two three 12) rfl hpn T.e_TooMany T.e_NotKept (nodup_ne T.ne (i := 0) (j := 14) rfl rfl (by decide)) (fun z => (nodup_ne T.ne (i := 13) (j := 14) rfl rfl (by decide) z).elim) (fun _ => ?_))
    refine ds_seq (ds_isE (a0 := a0) (C := a.c_TooMany) (d0 := d0) (l0 := kF one two three 12) rfl hpn T.e_TooMany T.e_NothingToUndo (nodup_ne T.ne (i := 0) (j := 15) rfl rfl (by decide)) (fun z => (nodup_ne T.ne (i := 13) (j := 15) rfl rfl (by decide) z).elim) (fun _ => ?_))
    refine ds_seq (ds_isE (a0 := a0) (C := a.c_TooMany) (d0 := d0) (l0 := kF one two three 12) rfl hpn T.e_TooMany T.e_NothingToRedo (nodup_ne T.ne (i := 0) (j := 16) rfl rfl (by decide)) (fun z => (nodup_ne T.ne (i := 13) (j := 16) rfl rfl (by decide) z).elim) (fun _ => ?_))
    exact ds_share (i := 1) rfl (ds_ret (de_var rfl hR))
  · have hR : R (.lst [kT one two three 13]) := hR
    refine ds_seq (ds_isE (a0 := a0) (C := a.c_NotKept) (d0 := d0) (l0 := kF one two three 13) rfl hpn T.e_NotKept T.e_NoName (nodup_ne T.ne (i := 0) (j := 9) rfl rfl (by decide)) (fun z => (nodup_ne T.ne (i := 14) (j := 9) rfl rfl (by decide) z).elim) (fun _ => ?_))
    refine ds_seq (ds_isE (a0 := a0) (C := a.c_NotKept) (d0 := d0) (l0 := kF one two three 13) rfl hpn T.e_NotKept T.e_TakenName (nodup_ne T.ne (i := 0) (j := 10) rfl rfl (by decide)) (fun z => (nodup_ne T.ne (i := 14) (j := 10) rfl rfl (by decide) z).elim) (fun _ => ?_))
    refine ds_seq (ds_isE (a0 := a0) (C := a.c_NotKept) (d0 := d0) (l0 := kF one two three 13) rfl hpn T.e_NotKept T.e_Unlike (nodup_ne T.ne (i := 0) (j := 11) rfl rfl (by decide)) (fun z => (nodup_ne T.ne (i := 14) (j := 11) rfl rfl (by decide) z).elim) (fun _ => ?_))
    refine ds_seq (ds_isE (a0 := a0) (C := a.c_NotKept) (d0 := d0) (l0 := kF one two three 13) rfl hpn T.e_NotKept T.e_NotThere (nodup_ne T.ne (i := 0) (j := 12) rfl rfl (by decide)) (fun z => (nodup_ne T.ne (i := 14) (j := 12) rfl rfl (by decide) z).elim) (fun _ => ?_))
    refine ds_seq (ds_isE (a0 := a0) (C := a.c_NotKept) (d0 := d0) (l0 := kF one two three 13) rfl hpn T.e_NotKept T.e_TooMany (nodup_ne T.ne (i := 0) (j := 13) rfl rfl (by decide)) (fun z => (nodup_ne T.ne (i := 14) (j := 13) rfl rfl (by decide) z).elim) (fun _ => ?_))
    refine ds_seq (ds_isE (a0 := a0) (C := a.c_NotKept) (d0 := d0) (l0 := kF one two three 13) rfl hpn T.e_NotKept T.e_NotKept (nodup_ne T.ne (i := 0) (j := 14) rfl rfl (by decide)) (fun _ => ds_app rfl (de_tup (da_cons (de_str (da_cons (de_xe (de_var rfl ⟨a0, d0, a.c_NotKept, kF one two three 13, one, rfl, hpn, T.no_NotKept_promise, rfl, da_cons (de_xe (de_var rfl ⟨a0, d0, a.c_NotKept, kF one two three 13, two, rfl, hpn, T.no_NotKept_witness, rfl, da_nil ⟨by simp, (show 0 < 16000 by decide), ?_⟩⟩))⟩))))))) (fun z => (z rfl).elim))
    refine ds_seq (ds_isE (a0 := a0) (C := a.c_NotKept) (d0 := d0) (l0 := kF one two three 13) rfl hpn T.e_NotKept T.e_NothingToUndo (nodup_ne T.ne (i := 0) (j := 15) rfl rfl (by decide)) (fun z => (nodup_ne T.ne (i := 14) (j := 15) rfl rfl (by decide) z).elim) (fun _ => ?_))
    refine ds_seq (ds_isE (a0 := a0) (C := a.c_NotKept) (d0 := d0) (l0 := kF one two three 13) rfl hpn T.e_NotKept T.e_NothingToRedo (nodup_ne T.ne (i := 0) (j := 16) rfl rfl (by decide)) (fun z => (nodup_ne T.ne (i := 14) (j := 16) rfl rfl (by decide) z).elim) (fun _ => ?_))
    exact ds_share (i := 1) rfl (ds_ret (de_var rfl hR))
  · have hR : R (.lst [kT one two three 14]) := hR
    refine ds_seq (ds_isE (a0 := a0) (C := a.c_NothingToUndo) (d0 := d0) (l0 := kF one two three 14) rfl hpn T.e_NothingToUndo T.e_NoName (nodup_ne T.ne (i := 0) (j := 9) rfl rfl (by decide)) (fun z => (nodup_ne T.ne (i := 15) (j := 9) rfl rfl (by decide) z).elim) (fun _ => ?_))
    refine ds_seq (ds_isE (a0 := a0) (C := a.c_NothingToUndo) (d0 := d0) (l0 := kF one two three 14) rfl hpn T.e_NothingToUndo T.e_TakenName (nodup_ne T.ne (i := 0) (j := 10) rfl rfl (by decide)) (fun z => (nodup_ne T.ne (i := 15) (j := 10) rfl rfl (by decide) z).elim) (fun _ => ?_))
    refine ds_seq (ds_isE (a0 := a0) (C := a.c_NothingToUndo) (d0 := d0) (l0 := kF one two three 14) rfl hpn T.e_NothingToUndo T.e_Unlike (nodup_ne T.ne (i := 0) (j := 11) rfl rfl (by decide)) (fun z => (nodup_ne T.ne (i := 15) (j := 11) rfl rfl (by decide) z).elim) (fun _ => ?_))
    refine ds_seq (ds_isE (a0 := a0) (C := a.c_NothingToUndo) (d0 := d0) (l0 := kF one two three 14) rfl hpn T.e_NothingToUndo T.e_NotThere (nodup_ne T.ne (i := 0) (j := 12) rfl rfl (by decide)) (fun z => (nodup_ne T.ne (i := 15) (j := 12) rfl rfl (by decide) z).elim) (fun _ => ?_))
    refine ds_seq (ds_isE (a0 := a0) (C := a.c_NothingToUndo) (d0 := d0) (l0 := kF one two three 14) rfl hpn T.e_NothingToUndo T.e_TooMany (nodup_ne T.ne (i := 0) (j := 13) rfl rfl (by decide)) (fun z => (nodup_ne T.ne (i := 15) (j := 13) rfl rfl (by decide) z).elim) (fun _ => ?_))
    refine ds_seq (ds_isE (a0 := a0) (C := a.c_NothingToUndo) (d0 := d0) (l0 := kF one two three 14) rfl hpn T.e_NothingToUndo T.e_NotKept (nodup_ne T.ne (i := 0) (j := 14) rfl rfl (by decide)) (fun z => (nodup_ne T.ne (i := 15) (j := 14) rfl rfl (by decide) z).elim) (fun _ => ?_))
    refine ds_seq (ds_isE (a0 := a0) (C := a.c_NothingToUndo) (d0 := d0) (l0 := kF one two three 14) rfl hpn T.e_NothingToUndo T.e_NothingToUndo (nodup_ne T.ne (i := 0) (j := 15) rfl rfl (by decide)) (fun _ => ds_app rfl (de_tup (da_cons (de_str (da_nil ⟨by simp, (show 0 < 16000 by decide), ?_⟩))))) (fun z => (z rfl).elim))
    refine ds_seq (ds_isE (a0 := a0) (C := a.c_NothingToUndo) (d0 := d0) (l0 := kF one two three 14) rfl hpn T.e_NothingToUndo T.e_NothingToRedo (nodup_ne T.ne (i := 0) (j := 16) rfl rfl (by decide)) (fun z => (nodup_ne T.ne (i := 15) (j := 16) rfl rfl (by decide) z).elim) (fun _ => ?_))
    exact ds_share (i := 1) rfl (ds_ret (de_var rfl hR))
  · have hR : R (.lst [kT one two three 15]) := hR
    refine ds_seq (ds_isE (a0 := a0) (C := a.c_NothingToRedo) (d0 := d0) (l0 := kF one two three 15) rfl hpn T.e_NothingToRedo T.e_NoName (nodup_ne T.ne (i := 0) (j := 9) rfl rfl (by decide)) (fun z => (nodup_ne T.ne (i := 16) (j := 9) rfl rfl (by decide) z).elim) (fun _ => ?_))
    refine ds_seq (ds_isE (a0 := a0) (C := a.c_NothingToRedo) (d0 := d0) (l0 := kF one two three 15) rfl hpn T.e_NothingToRedo T.e_TakenName (nodup_ne T.ne (i := 0) (j := 10) rfl rfl (by decide)) (fun z => (nodup_ne T.ne (i := 16) (j := 10) rfl rfl (by decide) z).elim) (fun _ => ?_))
    refine ds_seq (ds_isE (a0 := a0) (C := a.c_NothingToRedo) (d0 := d0) (l0 := kF one two three 15) rfl hpn T.e_NothingToRedo T.e_Unlike (nodup_ne T.ne (i := 0) (j := 11) rfl rfl (by decide)) (fun z => (nodup_ne T.ne (i := 16) (j := 11) rfl rfl (by decide) z).elim) (fun _ => ?_))
    refine ds_seq (ds_isE (a0 := a0) (C := a.c_NothingToRedo) (d0 := d0) (l0 := kF one two three 15) rfl hpn T.e_NothingToRedo T.e_NotThere (nodup_ne T.ne (i := 0) (j := 12) rfl rfl (by decide)) (fun z => (nodup_ne T.ne (i := 16) (j := 12) rfl rfl (by decide) z).elim) (fun _ => ?_))
    refine ds_seq (ds_isE (a0 := a0) (C := a.c_NothingToRedo) (d0 := d0) (l0 := kF one two three 15) rfl hpn T.e_NothingToRedo T.e_TooMany (nodup_ne T.ne (i := 0) (j := 13) rfl rfl (by decide)) (fun z => (nodup_ne T.ne (i := 16) (j := 13) rfl rfl (by decide) z).elim) (fun _ => ?_))
    refine ds_seq (ds_isE (a0 := a0) (C := a.c_NothingToRedo) (d0 := d0) (l0 := kF one two three 15) rfl hpn T.e_NothingToRedo T.e_NotKept (nodup_ne T.ne (i := 0) (j := 14) rfl rfl (by decide)) (fun z => (nodup_ne T.ne (i := 16) (j := 14) rfl rfl (by decide) z).elim) (fun _ => ?_))
    refine ds_seq (ds_isE (a0 := a0) (C := a.c_NothingToRedo) (d0 := d0) (l0 := kF one two three 15) rfl hpn T.e_NothingToRedo T.e_NothingToUndo (nodup_ne T.ne (i := 0) (j := 15) rfl rfl (by decide)) (fun z => (nodup_ne T.ne (i := 16) (j := 15) rfl rfl (by decide) z).elim) (fun _ => ?_))
    refine ds_seq (ds_isE (a0 := a0) (C := a.c_NothingToRedo) (d0 := d0) (l0 := kF one two three 15) rfl hpn T.e_NothingToRedo T.e_NothingToRedo (nodup_ne T.ne (i := 0) (j := 16) rfl rfl (by decide)) (fun _ => ds_app rfl (de_tup (da_cons (de_str (da_nil ⟨by simp, (show 0 < 16000 by decide), ?_⟩))))) (fun z => (z rfl).elim))
    exact ds_share (i := 1) rfl (ds_ret (de_var rfl hR))
def F_law_kinds (K : PySem.W.Frag) (a : Ad) (pl : Pins) : DF := fun ss R _ => ∃ (k : Nat) (a0 : Addr) (d0 : Option Addr) (one two three : D), k < 16 ∧ PnOk K pl a0 d0 (kC a k) ∧ ss = [.sh (.exc a0 d0 (kC a k) (kF one two three k))] ∧ ((k = 5 ∨ k = 8 ∨ k = 9) → okR one) ∧ ((k = 0 ∨ k = 1 ∨ k = 7) → okR two) ∧ R (.lst ([kT one two three k]))
theorem ok__law_kinds (T : Tx K mg a) (hS : Sy mg base a) : FnG P w K mg base false 2 a.f__law_kinds a.d__law_kinds (["e"] : List Str) (spP K (fun _ => True) (F_law_kinds K a)) := by
  refine fn_dataP T.F__law_kinds sc__law_kinds (fun pl ss R X z => by obtain ⟨_, _, _, _, _, _, _, _, h, _⟩ := z; rw [h] <;> rfl) fun cdv A outer s H E pl hr _ => ⟨_, (pss_cons (ps_set (i := 1) sc__law_kinds.nd rfl (Or.inl rfl) (pe_lst pa_nil))
      (pss_cons (ps_if (pt_val (pe_callB (call_isG (pn := (fun a d C => PnOk K pl a d C)) (fun _ _ _ z => z)) (by rfl) T.n_isinstance PyProof.Rows.boot_isinstance (pa_cons (pv 0) (pa_cons (pe_glob (v := .ref a.c_BadNumber) (by rfl) T.g_BadNumber rfl) pa_nil)))) (pss_one (ps_expr (pe_bm PySem.F.plainAttrs_list PySem.F.slot_list_append PySem.F.type_list_append mt_append (pv 1) (pa_cons (pe_tup (pa_cons pe_str (pa_cons (pe_xe (pn := (fun a d C => PnOk K pl a d C)) (fun _ _ _ z => z) (pv 0)) (pa_cons (pe_callB (call_repr hS.sys (hr.gd) hr.hu) (by rfl) T.n_repr PyProof.Rows.boot_repr (pa_cons (pe_xe (pn := (fun a d C => PnOk K pl a d C)) (fun _ _ _ z => z) (pv 0)) pa_nil)) pa_nil)))) pa_nil)))) pss_nil)
      (pss_cons (ps_if (pt_val (pe_callB (call_isG (pn := (fun a d C => PnOk K pl a d C)) (fun _ _ _ z => z)) (by rfl) T.n_isinstance PyProof.Rows.boot_isinstance (pa_cons (pv 0) (pa_cons (pe_glob (v := .ref a.c_BadRow) (by rfl) T.g_BadRow rfl) pa_nil)))) (pss_one (ps_expr (pe_bm PySem.F.plainAttrs_list PySem.F.slot_list_append PySem.F.type_list_append mt_append (pv 1) (pa_cons (pe_tup (pa_cons pe_str (pa_cons (pe_xe (pn := (fun a d C => PnOk K pl a d C)) (fun _ _ _ z => z) (pv 0)) (pa_cons (pe_callB (call_repr hS.sys (hr.gd) hr.hu) (by rfl) T.n_repr PyProof.Rows.boot_repr (pa_cons (pe_xe (pn := (fun a d C => PnOk K pl a d C)) (fun _ _ _ z => z) (pv 0)) pa_nil)) pa_nil)))) pa_nil)))) pss_nil)
      (pss_cons (ps_if (pt_val (pe_callB (call_isG (pn := (fun a d C => PnOk K pl a d C)) (fun _ _ _ z => z)) (by rfl) T.n_isinstance PyProof.Rows.boot_isinstance (pa_cons (pv 0) (pa_cons (pe_glob (v := .ref a.c_BadTable) (by rfl) T.g_BadTable rfl) pa_nil)))) (pss_one (ps_expr (pe_bm PySem.F.plainAttrs_list PySem.F.slot_list_append PySem.F.type_list_append mt_append (pv 1) (pa_cons (pe_tup (pa_cons pe_str (pa_cons (pe_xe (pn := (fun a d C => PnOk K pl a d C)) (fun _ _ _ z => z) (pv 0)) pa_nil))) pa_nil)))) pss_nil)
      (pss_cons (ps_if (pt_val (pe_callB (call_isG (pn := (fun a d C => PnOk K pl a d C)) (fun _ _ _ z => z)) (by rfl) T.n_isinstance PyProof.Rows.boot_isinstance (pa_cons (pv 0) (pa_cons (pe_glob (v := .ref a.c_BadForm) (by rfl) T.g_BadForm rfl) pa_nil)))) (pss_one (ps_expr (pe_bm PySem.F.plainAttrs_list PySem.F.slot_list_append PySem.F.type_list_append mt_append (pv 1) (pa_cons (pe_tup (pa_cons pe_str (pa_cons (pe_xe (pn := (fun a d C => PnOk K pl a d C)) (fun _ _ _ z => z) (pv 0)) pa_nil))) pa_nil)))) pss_nil)
      (pss_cons (ps_if (pt_val (pe_callB (call_isG (pn := (fun a d C => PnOk K pl a d C)) (fun _ _ _ z => z)) (by rfl) T.n_isinstance PyProof.Rows.boot_isinstance (pa_cons (pv 0) (pa_cons (pe_glob (v := .ref a.c_BadBook) (by rfl) T.g_BadBook rfl) pa_nil)))) (pss_one (ps_expr (pe_bm PySem.F.plainAttrs_list PySem.F.slot_list_append PySem.F.type_list_append mt_append (pv 1) (pa_cons (pe_tup (pa_cons pe_str (pa_cons (pe_xe (pn := (fun a d C => PnOk K pl a d C)) (fun _ _ _ z => z) (pv 0)) pa_nil))) pa_nil)))) pss_nil)
      (pss_cons (ps_if (pt_val (pe_callB (call_isG (pn := (fun a d C => PnOk K pl a d C)) (fun _ _ _ z => z)) (by rfl) T.n_isinstance PyProof.Rows.boot_isinstance (pa_cons (pv 0) (pa_cons (pe_glob (v := .ref a.c_BadName) (by rfl) T.g_BadName rfl) pa_nil)))) (pss_one (ps_expr (pe_bm PySem.F.plainAttrs_list PySem.F.slot_list_append PySem.F.type_list_append mt_append (pv 1) (pa_cons (pe_tup (pa_cons pe_str (pa_cons (pe_callB (call_repr hS.sys (hr.gd) hr.hu) (by rfl) T.n_repr PyProof.Rows.boot_repr (pa_cons (pe_xe (pn := (fun a d C => PnOk K pl a d C)) (fun _ _ _ z => z) (pv 0)) pa_nil)) pa_nil))) pa_nil)))) pss_nil)
      (pss_cons (ps_if (pt_val (pe_callB (call_isG (pn := (fun a d C => PnOk K pl a d C)) (fun _ _ _ z => z)) (by rfl) T.n_isinstance PyProof.Rows.boot_isinstance (pa_cons (pv 0) (pa_cons (pe_glob (v := .ref a.c_BadText) (by rfl) T.g_BadText rfl) pa_nil)))) (pss_one (ps_expr (pe_bm PySem.F.plainAttrs_list PySem.F.slot_list_append PySem.F.type_list_append mt_append (pv 1) (pa_cons (pe_tup (pa_cons pe_str (pa_cons (pe_xe (pn := (fun a d C => PnOk K pl a d C)) (fun _ _ _ z => z) (pv 0)) (pa_cons (pe_xe (pn := (fun a d C => PnOk K pl a d C)) (fun _ _ _ z => z) (pv 0)) pa_nil)))) pa_nil)))) pss_nil)
      (pss_cons (ps_if (pt_val (pe_callB (call_isG (pn := (fun a d C => PnOk K pl a d C)) (fun _ _ _ z => z)) (by rfl) T.n_isinstance PyProof.Rows.boot_isinstance (pa_cons (pv 0) (pa_cons (pe_glob (v := .ref a.c_NoPlace) (by rfl) T.g_NoPlace rfl) pa_nil)))) (pss_one (ps_expr (pe_bm PySem.F.plainAttrs_list PySem.F.slot_list_append PySem.F.type_list_append mt_append (pv 1) (pa_cons (pe_tup (pa_cons pe_str (pa_cons (pe_xe (pn := (fun a d C => PnOk K pl a d C)) (fun _ _ _ z => z) (pv 0)) (pa_cons (pe_callB (call_repr hS.sys (hr.gd) hr.hu) (by rfl) T.n_repr PyProof.Rows.boot_repr (pa_cons (pe_xe (pn := (fun a d C => PnOk K pl a d C)) (fun _ _ _ z => z) (pv 0)) pa_nil)) pa_nil)))) pa_nil)))) pss_nil)
      (pss_one (ps_ret (pe_op op_addG (pv 1) (pe_go (ok__law_more_kinds T hS) (hr.mono (by decide)) (fun _ h => h) (by rfl) T.g__law_more_kinds T.F__law_more_kinds.kp T.b__law_more_kinds lets0 (pa_cons (pv 0) pa_nil)))))))))))))), fun b ss R X h hX => ?_⟩
  obtain ⟨k, a0, d0, one, two, three, hk, hpn, rfl, h1, h2, hR⟩ := h
  refine ds_seq (ds_own (dn_lst (da_nil ⟨by decide, ?_⟩)))
  have hk' : k = 0 ∨ k = 1 ∨ k = 2 ∨ k = 3 ∨ k = 4 ∨ k = 5 ∨ k = 6 ∨ k = 7 ∨ k = 8 ∨ k = 9 ∨ k = 10 ∨ k = 11 ∨ k = 12 ∨ k = 13 ∨ k = 14 ∨ k = 15 := by omega
  rcases hk' with rfl | rfl | rfl | rfl | rfl | rfl | rfl | rfl | rfl | rfl | rfl | rfl | rfl | rfl | rfl | rfl
  · have hR : R (.lst [kT one two three 0]) := hR
    have ok2 := h2 (by decide)
    refine ds_seq (ds_isE (a0 := a0) (C := a.c_BadNumber) (d0 := d0) (l0 := kF one two three 0) rfl hpn T.e_BadNumber T.e_BadNumber (nodup_ne T.ne (i := 0) (j := 1) rfl rfl (by decide)) (fun _ => ds_app rfl (de_tup (da_cons (de_str (da_cons (de_xe (de_var rfl ⟨a0, d0, a.c_BadNumber, kF one two three 0, one, rfl, hpn, T.no_BadNumber_what, rfl, da_cons (de_repr (de_xe (de_var rfl ⟨a0, d0, a.c_BadNumber, kF one two three 0, two, rfl, hpn, T.no_BadNumber_number, rfl, ok2, da_nil ⟨by simp, (show 0 < 16000 by decide), ?_⟩⟩)))⟩))))))) (fun z => (z rfl).elim))
    refine ds_seq (ds_isE (a0 := a0) (C := a.c_BadNumber) (d0 := d0) (l0 := kF one two three 0) rfl hpn T.e_BadNumber T.e_BadRow (nodup_ne T.ne (i := 0) (j := 2) rfl rfl (by decide)) (fun z => (nodup_ne T.ne (i := 1) (j := 2) rfl rfl (by decide) z).elim) (fun _ => ?_))
    refine ds_seq (ds_isE (a0 := a0) (C := a.c_BadNumber) (d0 := d0) (l0 := kF one two three 0) rfl hpn T.e_BadNumber T.e_BadTable (nodup_ne T.ne (i := 0) (j := 3) rfl rfl (by decide)) (fun z => (nodup_ne T.ne (i := 1) (j := 3) rfl rfl (by decide) z).elim) (fun _ => ?_))
    refine ds_seq (ds_isE (a0 := a0) (C := a.c_BadNumber) (d0 := d0) (l0 := kF one two three 0) rfl hpn T.e_BadNumber T.e_BadForm (nodup_ne T.ne (i := 0) (j := 4) rfl rfl (by decide)) (fun z => (nodup_ne T.ne (i := 1) (j := 4) rfl rfl (by decide) z).elim) (fun _ => ?_))
    refine ds_seq (ds_isE (a0 := a0) (C := a.c_BadNumber) (d0 := d0) (l0 := kF one two three 0) rfl hpn T.e_BadNumber T.e_BadBook (nodup_ne T.ne (i := 0) (j := 5) rfl rfl (by decide)) (fun z => (nodup_ne T.ne (i := 1) (j := 5) rfl rfl (by decide) z).elim) (fun _ => ?_))
    refine ds_seq (ds_isE (a0 := a0) (C := a.c_BadNumber) (d0 := d0) (l0 := kF one two three 0) rfl hpn T.e_BadNumber T.e_BadName (nodup_ne T.ne (i := 0) (j := 6) rfl rfl (by decide)) (fun z => (nodup_ne T.ne (i := 1) (j := 6) rfl rfl (by decide) z).elim) (fun _ => ?_))
    refine ds_seq (ds_isE (a0 := a0) (C := a.c_BadNumber) (d0 := d0) (l0 := kF one two three 0) rfl hpn T.e_BadNumber T.e_BadText (nodup_ne T.ne (i := 0) (j := 7) rfl rfl (by decide)) (fun z => (nodup_ne T.ne (i := 1) (j := 7) rfl rfl (by decide) z).elim) (fun _ => ?_))
    refine ds_seq (ds_isE (a0 := a0) (C := a.c_BadNumber) (d0 := d0) (l0 := kF one two three 0) rfl hpn T.e_BadNumber T.e_NoPlace (nodup_ne T.ne (i := 0) (j := 8) rfl rfl (by decide)) (fun z => (nodup_ne T.ne (i := 1) (j := 8) rfl rfl (by decide) z).elim) (fun _ => ?_))
    exact ds_ret (de_new (dn_addL_own rfl (de_callP EL.no trivial (dc_cons (de_var rfl (dc_nil ⟨0, a0, d0, one, two, three, by decide, hpn, rfl, h1, h2, _, rfl, (show 1 ≤ 16000 by decide), hR⟩))))))
  · have hR : R (.lst [kT one two three 1]) := hR
    have ok2 := h2 (by decide)
    refine ds_seq (ds_isE (a0 := a0) (C := a.c_BadRow) (d0 := d0) (l0 := kF one two three 1) rfl hpn T.e_BadRow T.e_BadNumber (nodup_ne T.ne (i := 0) (j := 1) rfl rfl (by decide)) (fun z => (nodup_ne T.ne (i := 2) (j := 1) rfl rfl (by decide) z).elim) (fun _ => ?_))
    refine ds_seq (ds_isE (a0 := a0) (C := a.c_BadRow) (d0 := d0) (l0 := kF one two three 1) rfl hpn T.e_BadRow T.e_BadRow (nodup_ne T.ne (i := 0) (j := 2) rfl rfl (by decide)) (fun _ => ds_app rfl (de_tup (da_cons (de_str (da_cons (de_xe (de_var rfl ⟨a0, d0, a.c_BadRow, kF one two three 1, one, rfl, hpn, T.no_BadRow_what, rfl, da_cons (de_repr (de_xe (de_var rfl ⟨a0, d0, a.c_BadRow, kF one two three 1, two, rfl, hpn, T.no_BadRow_row, rfl, ok2, da_nil ⟨by simp, (show 0 < 16000 by decide), ?_⟩⟩)))⟩))))))) (fun z => (z rfl).elim))
    refine ds_seq (ds_isE (a0 := a0) (C := a.c_BadRow) (d0 := d0) (l0 := kF one two three 1) rfl hpn T.e_BadRow T.e_BadTable (nodup_ne T.ne (i := 0) (j := 3) rfl rfl (by decide)) (fun z => (nodup_ne T.ne (i := 2) (j := 3) rfl rfl (by decide) z).elim) (fun _ => ?_))
    refine ds_seq (ds_isE (a0 := a0) (C := a.c_BadRow) (d0 := d0) (l0 := kF one two three 1) rfl hpn T.e_BadRow T.e_BadForm (nodup_ne T.ne (i := 0) (j := 4) rfl rfl (by decide)) (fun z => (nodup_ne T.ne (i := 2) (j := 4) rfl rfl (by decide) z).elim) (fun _ => ?_))
    refine ds_seq (ds_isE (a0 := a0) (C := a.c_BadRow) (d0 := d0) (l0 := kF one two three 1) rfl hpn T.e_BadRow T.e_BadBook (nodup_ne T.ne (i := 0) (j := 5) rfl rfl (by decide)) (fun z => (nodup_ne T.ne (i := 2) (j := 5) rfl rfl (by decide) z).elim) (fun _ => ?_))
    refine ds_seq (ds_isE (a0 := a0) (C := a.c_BadRow) (d0 := d0) (l0 := kF one two three 1) rfl hpn T.e_BadRow T.e_BadName (nodup_ne T.ne (i := 0) (j := 6) rfl rfl (by decide)) (fun z => (nodup_ne T.ne (i := 2) (j := 6) rfl rfl (by decide) z).elim) (fun _ => ?_))
    refine ds_seq (ds_isE (a0 := a0) (C := a.c_BadRow) (d0 := d0) (l0 := kF one two three 1) rfl hpn T.e_BadRow T.e_BadText (nodup_ne T.ne (i := 0) (j := 7) rfl rfl (by decide)) (fun z => (nodup_ne T.ne (i := 2) (j := 7) rfl rfl (by decide) z).elim) (fun _ => ?_))
    refine ds_seq (ds_isE (a0 := a0) (C := a.c_BadRow) (d0 := d0) (l0 := kF one two three 1) rfl hpn T.e_BadRow T.e_NoPlace (nodup_ne T.ne (i := 0) (j := 8) rfl rfl (by decide)) (fun z => (nodup_ne T.ne (i := 2) (j := 8) rfl rfl (by decide) z).elim) (fun _ => ?_))
    exact ds_ret (de_new (dn_addL_own rfl (de_callP EL.no trivial (dc_cons (de_var rfl (dc_nil ⟨1, a0, d0, one, two, three, by decide, hpn, rfl, h1, h2, _, rfl, (show 1 ≤ 16000 by decide), hR⟩))))))
  · have hR : R (.lst [kT one two three 2]) := hR
    refine ds_seq (ds_isE (a0 := a0) (C := a.c_BadTable) (d0 := d0) (l0 := kF one two three 2) rfl hpn T.e_BadTable T.e_BadNumber (nodup_ne T.ne (i := 0) (j := 1) rfl rfl (by decide)) (fun z => (nodup_ne T.ne (i := 3) (j := 1) rfl rfl (by decide) z).elim) (fun _ => ?_))
    refine ds_seq (ds_isE (a0 := a0) (C := a.c_BadTable) (d0 := d0) (l0 := kF one two three 2) rfl hpn T.e_BadTable T.e_BadRow (nodup_ne T.ne (i := 0) (j := 2) rfl rfl (by decide)) (fun z => (nodup_ne T.ne (i := 3) (j := 2) rfl rfl (by decide) z).elim) (fun _ => ?_))
    refine ds_seq (ds_isE (a0 := a0) (C := a.c_BadTable) (d0 := d0) (l0 := kF one two three 2) rfl hpn T.e_BadTable T.e_BadTable (nodup_ne T.ne (i := 0) (j := 3) rfl rfl (by decide)) (fun _ => ds_app rfl (de_tup (da_cons (de_str (da_cons (de_xe (de_var rfl ⟨a0, d0, a.c_BadTable, kF one two three 2, one, rfl, hpn, T.no_BadTable_what, rfl, da_nil ⟨by simp, (show 0 < 16000 by decide), ?_⟩⟩))))))) (fun z => (z rfl).elim))
    refine ds_seq (ds_isE (a0 := a0) (C := a.c_BadTable) (d0 := d0) (l0 := kF one two three 2) rfl hpn T.e_BadTable T.e_BadForm (nodup_ne T.ne (i := 0) (j := 4) rfl rfl (by decide)) (fun z => (nodup_ne T.ne (i := 3) (j := 4) rfl rfl (by decide) z).elim) (fun _ => ?_))
    refine ds_seq (ds_isE (a0 := a0) (C := a.c_BadTable) (d0 := d0) (l0 := kF one two three 2) rfl hpn T.e_BadTable T.e_BadBook (nodup_ne T.ne (i := 0) (j := 5) rfl rfl (by decide)) (fun z => (nodup_ne T.ne (i := 3) (j := 5) rfl rfl (by decide) z).elim) (fun _ => ?_))
    refine ds_seq (ds_isE (a0 := a0) (C := a.c_BadTable) (d0 := d0) (l0 := kF one two three 2) rfl hpn T.e_BadTable T.e_BadName (nodup_ne T.ne (i := 0) (j := 6) rfl rfl (by decide)) (fun z => (nodup_ne T.ne (i := 3) (j := 6) rfl rfl (by decide) z).elim) (fun _ => ?_))
    refine ds_seq (ds_isE (a0 := a0) (C := a.c_BadTable) (d0 := d0) (l0 := kF one two three 2) rfl hpn T.e_BadTable T.e_BadText (nodup_ne T.ne (i := 0) (j := 7) rfl rfl (by decide)) (fun z => (nodup_ne T.ne (i := 3) (j := 7) rfl rfl (by decide) z).elim) (fun _ => ?_))
    refine ds_seq (ds_isE (a0 := a0) (C := a.c_BadTable) (d0 := d0) (l0 := kF one two three 2) rfl hpn T.e_BadTable T.e_NoPlace (nodup_ne T.ne (i := 0) (j := 8) rfl rfl (by decide)) (fun z => (nodup_ne T.ne (i := 3) (j := 8) rfl rfl (by decide) z).elim) (fun _ => ?_))
    exact ds_ret (de_new (dn_addL_own rfl (de_callP EL.no trivial (dc_cons (de_var rfl (dc_nil ⟨2, a0, d0, one, two, three, by decide, hpn, rfl, h1, h2, _, rfl, (show 1 ≤ 16000 by decide), hR⟩))))))
  · have hR : R (.lst [kT one two three 3]) := hR
    refine ds_seq (ds_isE (a0 := a0) (C := a.c_BadForm) (d0 := d0) (l0 := kF one two three 3) rfl hpn T.e_BadForm T.e_BadNumber (nodup_ne T.ne (i := 0) (j := 1) rfl rfl (by decide)) (fun z => (nodup_ne T.ne (i := 4) (j := 1) rfl rfl (by decide) z).elim) (fun _ => ?_))
    refine ds_seq (ds_isE (a0 := a0) (C := a.c_BadForm) (d0 := d0) (l0 := kF one two three 3) rfl hpn T.e_BadForm T.e_BadRow (nodup_ne T.ne (i := 0) (j := 2) rfl rfl (by decide)) (fun z => (nodup_ne T.ne (i := 4) (j := 2) rfl rfl (by decide) z).elim) (fun _ => ?_))
    refine ds_seq (ds_isE (a0 := a0) (C := a.c_BadForm) (d0 := d0) (l0 := kF one two three 3) rfl hpn T.e_BadForm T.e_BadTable (nodup_ne T.ne (i := 0) (j := 3) rfl rfl (by decide)) (fun z => (nodup_ne T.ne (i := 4) (j := 3) rfl rfl (by decide) z).elim) (fun _ => ?_))
    refine ds_seq (ds_isE (a0 := a0) (C := a.c_BadForm) (d0 := d0) (l0 := kF one two three 3) rfl hpn T.e_BadForm T.e_BadForm (nodup_ne T.ne (i := 0) (j := 4) rfl rfl (by decide)) (fun _ => ds_app rfl (de_tup (da_cons (de_str (da_cons (de_xe (de_var rfl ⟨a0, d0, a.c_BadForm, kF one two three 3, one, rfl, hpn, T.no_BadForm_what, rfl, da_nil ⟨by simp, (show 0 < 16000 by decide), ?_⟩⟩))))))) (fun z => (z rfl).elim))
    refine ds_seq (ds_isE (a0 := a0) (C := a.c_BadForm) (d0 := d0) (l0 := kF one two three 3) rfl hpn T.e_BadForm T.e_BadBook (nodup_ne T.ne (i := 0) (j := 5) rfl rfl (by decide)) (fun z => (nodup_ne T.ne (i := 4) (j := 5) rfl rfl (by decide) z).elim) (fun _ => ?_))
    refine ds_seq (ds_isE (a0 := a0) (C := a.c_BadForm) (d0 := d0) (l0 := kF one two three 3) rfl hpn T.e_BadForm T.e_BadName (nodup_ne T.ne (i := 0) (j := 6) rfl rfl (by decide)) (fun z => (nodup_ne T.ne (i := 4) (j := 6) rfl rfl (by decide) z).elim) (fun _ => ?_))
    refine ds_seq (ds_isE (a0 := a0) (C := a.c_BadForm) (d0 := d0) (l0 := kF one two three 3) rfl hpn T.e_BadForm T.e_BadText (nodup_ne T.ne (i := 0) (j := 7) rfl rfl (by decide)) (fun z => (nodup_ne T.ne (i := 4) (j := 7) rfl rfl (by decide) z).elim) (fun _ => ?_))
    refine ds_seq (ds_isE (a0 := a0) (C := a.c_BadForm) (d0 := d0) (l0 := kF one two three 3) rfl hpn T.e_BadForm T.e_NoPlace (nodup_ne T.ne (i := 0) (j := 8) rfl rfl (by decide)) (fun z => (nodup_ne T.ne (i := 4) (j := 8) rfl rfl (by decide) z).elim) (fun _ => ?_))
    exact ds_ret (de_new (dn_addL_own rfl (de_callP EL.no trivial (dc_cons (de_var rfl (dc_nil ⟨3, a0, d0, one, two, three, by decide, hpn, rfl, h1, h2, _, rfl, (show 1 ≤ 16000 by decide), hR⟩))))))
  · have hR : R (.lst [kT one two three 4]) := hR
    refine ds_seq (ds_isE (a0 := a0) (C := a.c_BadBook) (d0 := d0) (l0 := kF one two three 4) rfl hpn T.e_BadBook T.e_BadNumber (nodup_ne T.ne (i := 0) (j := 1) rfl rfl (by decide)) (fun z => (nodup_ne T.ne (i := 5) (j := 1) rfl rfl (by decide) z).elim) (fun _ => ?_))
    refine ds_seq (ds_isE (a0 := a0) (C := a.c_BadBook) (d0 := d0) (l0 := kF one two three 4) rfl hpn T.e_BadBook T.e_BadRow (nodup_ne T.ne (i := 0) (j := 2) rfl rfl (by decide)) (fun z => (nodup_ne T.ne (i := 5) (j := 2) rfl rfl (by decide) z).elim) (fun _ => ?_))
    refine ds_seq (ds_isE (a0 := a0) (C := a.c_BadBook) (d0 := d0) (l0 := kF one two three 4) rfl hpn T.e_BadBook T.e_BadTable (nodup_ne T.ne (i := 0) (j := 3) rfl rfl (by decide)) (fun z => (nodup_ne T.ne (i := 5) (j := 3) rfl rfl (by decide) z).elim) (fun _ => ?_))
    refine ds_seq (ds_isE (a0 := a0) (C := a.c_BadBook) (d0 := d0) (l0 := kF one two three 4) rfl hpn T.e_BadBook T.e_BadForm (nodup_ne T.ne (i := 0) (j := 4) rfl rfl (by decide)) (fun z => (nodup_ne T.ne (i := 5) (j := 4) rfl rfl (by decide) z).elim) (fun _ => ?_))
    refine ds_seq (ds_isE (a0 := a0) (C := a.c_BadBook) (d0 := d0) (l0 := kF one two three 4) rfl hpn T.e_BadBook T.e_BadBook (nodup_ne T.ne (i := 0) (j := 5) rfl rfl (by decide)) (fun _ => ds_app rfl (de_tup (da_cons (de_str (da_cons (de_xe (de_var rfl ⟨a0, d0, a.c_BadBook, kF one two three 4, one, rfl, hpn, T.no_BadBook_what, rfl, da_nil ⟨by simp, (show 0 < 16000 by decide), ?_⟩⟩))))))) (fun z => (z rfl).elim))
    refine ds_seq (ds_isE (a0 := a0) (C := a.c_BadBook) (d0 := d0) (l0 := kF one two three 4) rfl hpn T.e_BadBook T.e_BadName (nodup_ne T.ne (i := 0) (j := 6) rfl rfl (by decide)) (fun z => (nodup_ne T.ne (i := 5) (j := 6) rfl rfl (by decide) z).elim) (fun _ => ?_))
    refine ds_seq (ds_isE (a0 := a0) (C := a.c_BadBook) (d0 := d0) (l0 := kF one two three 4) rfl hpn T.e_BadBook T.e_BadText (nodup_ne T.ne (i := 0) (j := 7) rfl rfl (by decide)) (fun z => (nodup_ne T.ne (i := 5) (j := 7) rfl rfl (by decide) z).elim) (fun _ => ?_))
    refine ds_seq (ds_isE (a0 := a0) (C := a.c_BadBook) (d0 := d0) (l0 := kF one two three 4) rfl hpn T.e_BadBook T.e_NoPlace (nodup_ne T.ne (i := 0) (j := 8) rfl rfl (by decide)) (fun z => (nodup_ne T.ne (i := 5) (j := 8) rfl rfl (by decide) z).elim) (fun _ => ?_))
    exact ds_ret (de_new (dn_addL_own rfl (de_callP EL.no trivial (dc_cons (de_var rfl (dc_nil ⟨4, a0, d0, one, two, three, by decide, hpn, rfl, h1, h2, _, rfl, (show 1 ≤ 16000 by decide), hR⟩))))))
  · have hR : R (.lst [kT one two three 5]) := hR
    have ok1 := h1 (by decide)
    refine ds_seq (ds_isE (a0 := a0) (C := a.c_BadName) (d0 := d0) (l0 := kF one two three 5) rfl hpn T.e_BadName T.e_BadNumber (nodup_ne T.ne (i := 0) (j := 1) rfl rfl (by decide)) (fun z => (nodup_ne T.ne (i := 6) (j := 1) rfl rfl (by decide) z).elim) (fun _ => ?_))
    refine ds_seq (ds_isE (a0 := a0) (C := a.c_BadName) (d0 := d0) (l0 := kF one two three 5) rfl hpn T.e_BadName T.e_BadRow (nodup_ne T.ne (i := 0) (j := 2) rfl rfl (by decide)) (fun z => (nodup_ne T.ne (i := 6) (j := 2) rfl rfl (by decide) z).elim) (fun _ => ?_))
    refine ds_seq (ds_isE (a0 := a0) (C := a.c_BadName) (d0 := d0) (l0 := kF one two three 5) rfl hpn T.e_BadName T.e_BadTable (nodup_ne T.ne (i := 0) (j := 3) rfl rfl (by decide)) (fun z => (nodup_ne T.ne (i := 6) (j := 3) rfl rfl (by decide) z).elim) (fun _ => ?_))
    refine ds_seq (ds_isE (a0 := a0) (C := a.c_BadName) (d0 := d0) (l0 := kF one two three 5) rfl hpn T.e_BadName T.e_BadForm (nodup_ne T.ne (i := 0) (j := 4) rfl rfl (by decide)) (fun z => (nodup_ne T.ne (i := 6) (j := 4) rfl rfl (by decide) z).elim) (fun _ => ?_))
    refine ds_seq (ds_isE (a0 := a0) (C := a.c_BadName) (d0 := d0) (l0 := kF one two three 5) rfl hpn T.e_BadName T.e_BadBook (nodup_ne T.ne (i := 0) (j := 5) rfl rfl (by decide)) (fun z => (nodup_ne T.ne (i := 6) (j := 5) rfl rfl (by decide) z).elim) (fun _ => ?_))
    refine ds_seq (ds_isE (a0 := a0) (C := a.c_BadName) (d0 := d0) (l0 := kF one two three 5) rfl hpn T.e_BadName T.e_BadName (nodup_ne T.ne (i := 0) (j := 6) rfl rfl (by decide)) (fun _ => ds_app rfl (de_tup (da_cons (de_str (da_cons (de_repr (de_xe (de_var rfl ⟨a0, d0, a.c_BadName, kF one two three 5, one, rfl, hpn, T.no_BadName_name, rfl, ok1, da_nil ⟨by simp, (show 0 < 16000 by decide), ?_⟩⟩)))))))) (fun z => (z rfl).elim))
    refine ds_seq (ds_isE (a0 := a0) (C := a.c_BadName) (d0 := d0) (l0 := kF one two three 5) rfl hpn T.e_BadName T.e_BadText (nodup_ne T.ne (i := 0) (j := 7) rfl rfl (by decide)) (fun z => (nodup_ne T.ne (i := 6) (j := 7) rfl rfl (by decide) z).elim) (fun _ => ?_))
    refine ds_seq (ds_isE (a0 := a0) (C := a.c_BadName) (d0 := d0) (l0 := kF one two three 5) rfl hpn T.e_BadName T.e_NoPlace (nodup_ne T.ne (i := 0) (j := 8) rfl rfl (by decide)) (fun z => (nodup_ne T.ne (i := 6) (j := 8) rfl rfl (by decide) z).elim) (fun _ => ?_))
    exact ds_ret (de_new (dn_addL_own rfl (de_callP EL.no trivial (dc_cons (de_var rfl (dc_nil ⟨5, a0, d0, one, two, three, by decide, hpn, rfl, h1, h2, _, rfl, (show 1 ≤ 16000 by decide), hR⟩))))))
  · have hR : R (.lst [kT one two three 6]) := hR
    refine ds_seq (ds_isE (a0 := a0) (C := a.c_BadText) (d0 := d0) (l0 := kF one two three 6) rfl hpn T.e_BadText T.e_BadNumber (nodup_ne T.ne (i := 0) (j := 1) rfl rfl (by decide)) (fun z => (nodup_ne T.ne (i := 7) (j := 1) rfl rfl (by decide) z).elim) (fun _ => ?_))
    refine ds_seq (ds_isE (a0 := a0) (C := a.c_BadText) (d0 := d0) (l0 := kF one two three 6) rfl hpn T.e_BadText T.e_BadRow (nodup_ne T.ne (i := 0) (j := 2) rfl rfl (by decide)) (fun z => (nodup_ne T.ne (i := 7) (j := 2) rfl rfl (by decide) z).elim) (fun _ => ?_))
    refine ds_seq (ds_isE (a0 := a0) (C := a.c_BadText) (d0 := d0) (l0 := kF one two three 6) rfl hpn T.e_BadText T.e_BadTable (nodup_ne T.ne (i := 0) (j := 3) rfl rfl (by decide)) (fun z => (nodup_ne T.ne (i := 7) (j := 3) rfl rfl (by decide) z).elim) (fun _ => ?_))
    refine ds_seq (ds_isE (a0 := a0) (C := a.c_BadText) (d0 := d0) (l0 := kF one two three 6) rfl hpn T.e_BadText T.e_BadForm (nodup_ne T.ne (i := 0) (j := 4) rfl rfl (by decide)) (fun z => (nodup_ne T.ne (i := 7) (j := 4) rfl rfl (by decide) z).elim) (fun _ => ?_))
    refine ds_seq (ds_isE (a0 := a0) (C := a.c_BadText) (d0 := d0) (l0 := kF one two three 6) rfl hpn T.e_BadText T.e_BadBook (nodup_ne T.ne (i := 0) (j := 5) rfl rfl (by decide)) (fun z => (nodup_ne T.ne (i := 7) (j := 5) rfl rfl (by decide) z).elim) (fun _ => ?_))
    refine ds_seq (ds_isE (a0 := a0) (C := a.c_BadText) (d0 := d0) (l0 := kF one two three 6) rfl hpn T.e_BadText T.e_BadName (nodup_ne T.ne (i := 0) (j := 6) rfl rfl (by decide)) (fun z => (nodup_ne T.ne (i := 7) (j := 6) rfl rfl (by decide) z).elim) (fun _ => ?_))
    refine ds_seq (ds_isE (a0 := a0) (C := a.c_BadText) (d0 := d0) (l0 := kF one two three 6) rfl hpn T.e_BadText T.e_BadText (nodup_ne T.ne (i := 0) (j := 7) rfl rfl (by decide)) (fun _ => ds_app rfl (de_tup (da_cons (de_str (da_cons (de_xe (de_var rfl ⟨a0, d0, a.c_BadText, kF one two three 6, one, rfl, hpn, T.no_BadText_line, rfl, da_cons (de_xe (de_var rfl ⟨a0, d0, a.c_BadText, kF one two three 6, two, rfl, hpn, T.no_BadText_word, rfl, da_nil ⟨by simp, (show 0 < 16000 by decide), ?_⟩⟩))⟩))))))) (fun z => (z rfl).elim))
    refine ds_seq (ds_isE (a0 := a0) (C := a.c_BadText) (d0 := d0) (l0 := kF one two three 6) rfl hpn T.e_BadText T.e_NoPlace (nodup_ne T.ne (i := 0) (j := 8) rfl rfl (by decide)) (fun z => (nodup_ne T.ne (i := 7) (j := 8) rfl rfl (by decide) z).elim) (fun _ => ?_))
    exact ds_ret (de_new (dn_addL_own rfl (de_callP EL.no trivial (dc_cons (de_var rfl (dc_nil ⟨6, a0, d0, one, two, three, by decide, hpn, rfl, h1, h2, _, rfl, (show 1 ≤ 16000 by decide), hR⟩))))))
  · have hR : R (.lst [kT one two three 7]) := hR
    have ok2 := h2 (by decide)
    refine ds_seq (ds_isE (a0 := a0) (C := a.c_NoPlace) (d0 := d0) (l0 := kF one two three 7) rfl hpn T.e_NoPlace T.e_BadNumber (nodup_ne T.ne (i := 0) (j := 1) rfl rfl (by decide)) (fun z => (nodup_ne T.ne (i := 8) (j := 1) rfl rfl (by decide) z).elim) (fun _ => ?_))
    refine ds_seq (ds_isE (a0 := a0) (C := a.c_NoPlace) (d0 := d0) (l0 := kF one two three 7) rfl hpn T.e_NoPlace T.e_BadRow (nodup_ne T.ne (i := 0) (j := 2) rfl rfl (by decide)) (fun z => (nodup_ne T.ne (i := 8) (j := 2) rfl rfl (by decide) z).elim) (fun _ => ?_))
    refine ds_seq (ds_isE (a0 := a0) (C := a.c_NoPlace) (d0 := d0) (l0 := kF one two three 7) rfl hpn T.e_NoPlace T.e_BadTable (nodup_ne T.ne (i := 0) (j := 3) rfl rfl (by decide)) (fun z => (nodup_ne T.ne (i := 8) (j := 3) rfl rfl (by decide) z).elim) (fun _ => ?_))
    refine ds_seq (ds_isE (a0 := a0) (C := a.c_NoPlace) (d0 := d0) (l0 := kF one two three 7) rfl hpn T.e_NoPlace T.e_BadForm (nodup_ne T.ne (i := 0) (j := 4) rfl rfl (by decide)) (fun z => (nodup_ne T.ne (i := 8) (j := 4) rfl rfl (by decide) z).elim) (fun _ => ?_))
    refine ds_seq (ds_isE (a0 := a0) (C := a.c_NoPlace) (d0 := d0) (l0 := kF one two three 7) rfl hpn T.e_NoPlace T.e_BadBook (nodup_ne T.ne (i := 0) (j := 5) rfl rfl (by decide)) (fun z => (nodup_ne T.ne (i := 8) (j := 5) rfl rfl (by decide) z).elim) (fun _ => ?_))
    refine ds_seq (ds_isE (a0 := a0) (C := a.c_NoPlace) (d0 := d0) (l0 := kF one two three 7) rfl hpn T.e_NoPlace T.e_BadName (nodup_ne T.ne (i := 0) (j := 6) rfl rfl (by decide)) (fun z => (nodup_ne T.ne (i := 8) (j := 6) rfl rfl (by decide) z).elim) (fun _ => ?_))
    refine ds_seq (ds_isE (a0 := a0) (C := a.c_NoPlace) (d0 := d0) (l0 := kF one two three 7) rfl hpn T.e_NoPlace T.e_BadText (nodup_ne T.ne (i := 0) (j := 7) rfl rfl (by decide)) (fun z => (nodup_ne T.ne (i := 8) (j := 7) rfl rfl (by decide) z).elim) (fun _ => ?_))
    refine ds_seq (ds_isE (a0 := a0) (C := a.c_NoPlace) (d0 := d0) (l0 := kF one two three 7) rfl hpn T.e_NoPlace T.e_NoPlace (nodup_ne T.ne (i := 0) (j := 8) rfl rfl (by decide)) (fun _ => ds_app rfl (de_tup (da_cons (de_str (da_cons (de_xe (de_var rfl ⟨a0, d0, a.c_NoPlace, kF one two three 7, one, rfl, hpn, T.no_NoPlace_what, rfl, da_cons (de_repr (de_xe (de_var rfl ⟨a0, d0, a.c_NoPlace, kF one two three 7, two, rfl, hpn, T.no_NoPlace_index, rfl, ok2, da_nil ⟨by simp, (show 0 < 16000 by decide), ?_⟩⟩)))⟩))))))) (fun z => (z rfl).elim))
    exact ds_ret (de_new (dn_addL_own rfl (de_callP EL.no trivial (dc_cons (de_var rfl (dc_nil ⟨7, a0, d0, one, two, three, by decide, hpn, rfl, h1, h2, _, rfl, (show 1 ≤ 16000 by decide), hR⟩))))))
  · have hR : R (.lst [kT one two three 8]) := hR
    have ok1 := h1 (by decide)
    refine ds_seq (ds_isE (a0 := a0) (C := a.c_NoName) (d0 := d0) (l0 := kF one two three 8) rfl hpn T.e_NoName T.e_BadNumber (nodup_ne T.ne (i := 0) (j := 1) rfl rfl (by decide)) (fun z => (nodup_ne T.ne (i := 9) (j := 1) rfl rfl (by decide) z).elim) (fun _ => ?_))
    refine ds_seq (ds_isE (a0 := a0) (C := a.c_NoName) (d0 := d0) (l0 := kF one two three 8) rfl hpn T.e_NoName T.e_BadRow (nodup_ne T.ne (i := 0) (j := 2) rfl rfl (by decide)) (fun z => (nodup_ne T.ne (i := 9) (j := 2) rfl rfl (by decide) z).elim) (fun _ => ?_))
    refine ds_seq (ds_isE (a0 := a0) (C := a.c_NoName) (d0 := d0) (l0 := kF one two three 8) rfl hpn T.e_NoName T.e_BadTable (nodup_ne T.ne (i := 0) (j := 3) rfl rfl (by decide)) (fun z => (nodup_ne T.ne (i := 9) (j := 3) rfl rfl (by decide) z).elim) (fun _ => ?_))
    refine ds_seq (ds_isE (a0 := a0) (C := a.c_NoName) (d0 := d0) (l0 := kF one two three 8) rfl hpn T.e_NoName T.e_BadForm (nodup_ne T.ne (i := 0) (j := 4) rfl rfl (by decide)) (fun z => (nodup_ne T.ne (i := 9) (j := 4) rfl rfl (by decide) z).elim) (fun _ => ?_))
    refine ds_seq (ds_isE (a0 := a0) (C := a.c_NoName) (d0 := d0) (l0 := kF one two three 8) rfl hpn T.e_NoName T.e_BadBook (nodup_ne T.ne (i := 0) (j := 5) rfl rfl (by decide)) (fun z => (nodup_ne T.ne (i := 9) (j := 5) rfl rfl (by decide) z).elim) (fun _ => ?_))
    refine ds_seq (ds_isE (a0 := a0) (C := a.c_NoName) (d0 := d0) (l0 := kF one two three 8) rfl hpn T.e_NoName T.e_BadName (nodup_ne T.ne (i := 0) (j := 6) rfl rfl (by decide)) (fun z => (nodup_ne T.ne (i := 9) (j := 6) rfl rfl (by decide) z).elim) (fun _ => ?_))
    refine ds_seq (ds_isE (a0 := a0) (C := a.c_NoName) (d0 := d0) (l0 := kF one two three 8) rfl hpn T.e_NoName T.e_BadText (nodup_ne T.ne (i := 0) (j := 7) rfl rfl (by decide)) (fun z => (nodup_ne T.ne (i := 9) (j := 7) rfl rfl (by decide) z).elim) (fun _ => ?_))
    refine ds_seq (ds_isE (a0 := a0) (C := a.c_NoName) (d0 := d0) (l0 := kF one two three 8) rfl hpn T.e_NoName T.e_NoPlace (nodup_ne T.ne (i := 0) (j := 8) rfl rfl (by decide)) (fun z => (nodup_ne T.ne (i := 9) (j := 8) rfl rfl (by decide) z).elim) (fun _ => ?_))
    exact ds_ret (de_new (dn_addL_own rfl (de_callP EL.no trivial (dc_cons (de_var rfl (dc_nil ⟨8, a0, d0, one, two, three, by decide, hpn, rfl, h1, h2, _, rfl, (show 1 ≤ 16000 by decide), hR⟩))))))
  · have hR : R (.lst [kT one two three 9]) := hR
    have ok1 := h1 (by decide)
    refine ds_seq (ds_isE (a0 := a0) (C := a.c_TakenName) (d0 := d0) (l0 := kF one two three 9) rfl hpn T.e_TakenName T.e_BadNumber (nodup_ne T.ne (i := 0) (j := 1) rfl rfl (by decide)) (fun z => (nodup_ne T.ne (i := 10) (j := 1) rfl rfl (by decide) z).elim) (fun _ => ?_))
    refine ds_seq (ds_isE (a0 := a0) (C := a.c_TakenName) (d0 := d0) (l0 := kF one two three 9) rfl hpn T.e_TakenName T.e_BadRow (nodup_ne T.ne (i := 0) (j := 2) rfl rfl (by decide)) (fun z => (nodup_ne T.ne (i := 10) (j := 2) rfl rfl (by decide) z).elim) (fun _ => ?_))
    refine ds_seq (ds_isE (a0 := a0) (C := a.c_TakenName) (d0 := d0) (l0 := kF one two three 9) rfl hpn T.e_TakenName T.e_BadTable (nodup_ne T.ne (i := 0) (j := 3) rfl rfl (by decide)) (fun z => (nodup_ne T.ne (i := 10) (j := 3) rfl rfl (by decide) z).elim) (fun _ => ?_))
    refine ds_seq (ds_isE (a0 := a0) (C := a.c_TakenName) (d0 := d0) (l0 := kF one two three 9) rfl hpn T.e_TakenName T.e_BadForm (nodup_ne T.ne (i := 0) (j := 4) rfl rfl (by decide)) (fun z => (nodup_ne T.ne (i := 10) (j := 4) rfl rfl (by decide) z).elim) (fun _ => ?_))
    refine ds_seq (ds_isE (a0 := a0) (C := a.c_TakenName) (d0 := d0) (l0 := kF one two three 9) rfl hpn T.e_TakenName T.e_BadBook (nodup_ne T.ne (i := 0) (j := 5) rfl rfl (by decide)) (fun z => (nodup_ne T.ne (i := 10) (j := 5) rfl rfl (by decide) z).elim) (fun _ => ?_))
    refine ds_seq (ds_isE (a0 := a0) (C := a.c_TakenName) (d0 := d0) (l0 := kF one two three 9) rfl hpn T.e_TakenName T.e_BadName (nodup_ne T.ne (i := 0) (j := 6) rfl rfl (by decide)) (fun z => (nodup_ne T.ne (i := 10) (j := 6) rfl rfl (by decide) z).elim) (fun _ => ?_))
    refine ds_seq (ds_isE (a0 := a0) (C := a.c_TakenName) (d0 := d0) (l0 := kF one two three 9) rfl hpn T.e_TakenName T.e_BadText (nodup_ne T.ne (i := 0) (j := 7) rfl rfl (by decide)) (fun z => (nodup_ne T.ne (i := 10) (j := 7) rfl rfl (by decide) z).elim) (fun _ => ?_))
    refine ds_seq (ds_isE (a0 := a0) (C := a.c_TakenName) (d0 := d0) (l0 := kF one two three 9) rfl hpn T.e_TakenName T.e_NoPlace (nodup_ne T.ne (i := 0) (j := 8) rfl rfl (by decide)) (fun z => (nodup_ne T.ne (i := 10) (j := 8) rfl rfl (by decide) z).elim) (fun _ => ?_))
    exact ds_ret (de_new (dn_addL_own rfl (de_callP EL.no trivial (dc_cons (de_var rfl (dc_nil ⟨9, a0, d0, one, two, three, by decide, hpn, rfl, h1, h2, _, rfl, (show 1 ≤ 16000 by decide), hR⟩))))))
  · have hR : R (.lst [kT one two three 10]) := hR
    refine ds_seq (ds_isE (a0 := a0) (C := a.c_Unlike) (d0 := d0) (l0 := kF one two three 10) rfl hpn T.e_Unlike T.e_BadNumber (nodup_ne T.ne (i := 0) (j := 1) rfl rfl (by decide)) (fun z => (nodup_ne T.ne (i := 11) (j := 1) rfl rfl (by decide) z).elim) (fun _ => ?_))
    refine ds_seq (ds_isE (a0 := a0) (C := a.c_Unlike) (d0 := d0) (l0 := kF one two three 10) rfl hpn T.e_Unlike T.e_BadRow (nodup_ne T.ne (i := 0) (j := 2) rfl rfl (by decide)) (fun z => (nodup_ne T.ne (i := 11) (j := 2) rfl rfl (by decide) z).elim) (fun _ => ?_))
    refine ds_seq (ds_isE (a0 := a0) (C := a.c_Unlike) (d0 := d0) (l0 := kF one two three 10) rfl hpn T.e_Unlike T.e_BadTable (nodup_ne T.ne (i := 0) (j := 3) rfl rfl (by decide)) (fun z => (nodup_ne T.ne (i := 11) (j := 3) rfl rfl (by decide) z).elim) (fun _ => ?_))
    refine ds_seq (ds_isE (a0 := a0) (C := a.c_Unlike) (d0 := d0) (l0 := kF one two three 10) rfl hpn T.e_Unlike T.e_BadForm (nodup_ne T.ne (i := 0) (j := 4) rfl rfl (by decide)) (fun z => (nodup_ne T.ne (i := 11) (j := 4) rfl rfl (by decide) z).elim) (fun _ => ?_))
    refine ds_seq (ds_isE (a0 := a0) (C := a.c_Unlike) (d0 := d0) (l0 := kF one two three 10) rfl hpn T.e_Unlike T.e_BadBook (nodup_ne T.ne (i := 0) (j := 5) rfl rfl (by decide)) (fun z => (nodup_ne T.ne (i := 11) (j := 5) rfl rfl (by decide) z).elim) (fun _ => ?_))
    refine ds_seq (ds_isE (a0 := a0) (C := a.c_Unlike) (d0 := d0) (l0 := kF one two three 10) rfl hpn T.e_Unlike T.e_BadName (nodup_ne T.ne (i := 0) (j := 6) rfl rfl (by decide)) (fun z => (nodup_ne T.ne (i := 11) (j := 6) rfl rfl (by decide) z).elim) (fun _ => ?_))
    refine ds_seq (ds_isE (a0 := a0) (C := a.c_Unlike) (d0 := d0) (l0 := kF one two three 10) rfl hpn T.e_Unlike T.e_BadText (nodup_ne T.ne (i := 0) (j := 7) rfl rfl (by decide)) (fun z => (nodup_ne T.ne (i := 11) (j := 7) rfl rfl (by decide) z).elim) (fun _ => ?_))
    refine ds_seq (ds_isE (a0 := a0) (C := a.c_Unlike) (d0 := d0) (l0 := kF one two three 10) rfl hpn T.e_Unlike T.e_NoPlace (nodup_ne T.ne (i := 0) (j := 8) rfl rfl (by decide)) (fun z => (nodup_ne T.ne (i := 11) (j := 8) rfl rfl (by decide) z).elim) (fun _ => ?_))
    exact ds_ret (de_new (dn_addL_own rfl (de_callP EL.no trivial (dc_cons (de_var rfl (dc_nil ⟨10, a0, d0, one, two, three, by decide, hpn, rfl, h1, h2, _, rfl, (show 1 ≤ 16000 by decide), hR⟩))))))
  · have hR : R (.lst [kT one two three 11]) := hR
    refine ds_seq (ds_isE (a0 := a0) (C := a.c_NotThere) (d0 := d0) (l0 := kF one two three 11) rfl hpn T.e_NotThere T.e_BadNumber (nodup_ne T.ne (i := 0) (j := 1) rfl rfl (by decide)) (fun z => (nodup_ne T.ne (i := 12) (j := 1) rfl rfl (by decide) z).elim) (fun _ => ?_))
    refine ds_seq (ds_isE (a0 := a0) (C := a.c_NotThere) (d0 := d0) (l0 := kF one two three 11) rfl hpn T.e_NotThere T.e_BadRow (nodup_ne T.ne (i := 0) (j := 2) rfl rfl (by decide)) (fun z => (nodup_ne T.ne (i := 12) (j := 2) rfl rfl (by decide) z).elim) (fun _ => ?_))
    refine ds_seq (ds_isE (a0 := a0) (C := a.c_NotThere) (d0 := d0) (l0 := kF one two three 11) rfl hpn T.e_NotThere T.e_BadTable (nodup_ne T.ne (i := 0) (j := 3) rfl rfl (by decide)) (fun z => (nodup_ne T.ne (i := 12) (j := 3) rfl rfl (by decide) z).elim) (fun _ => ?_))
    refine ds_seq (ds_isE (a0 := a0) (C := a.c_NotThere) (d0 := d0) (l0 := kF one two three 11) rfl hpn T.e_NotThere T.e_BadForm (nodup_ne T.ne (i := 0) (j := 4) rfl rfl (by decide)) (fun z => (nodup_ne T.ne (i := 12) (j := 4) rfl rfl (by decide) z).elim) (fun _ => ?_))
    refine ds_seq (ds_isE (a0 := a0) (C := a.c_NotThere) (d0 := d0) (l0 := kF one two three 11) rfl hpn T.e_NotThere T.e_BadBook (nodup_ne T.ne (i := 0) (j := 5) rfl rfl (by decide)) (fun z => (nodup_ne T.ne (i := 12) (j := 5) rfl rfl (by decide) z).elim) (fun _ => ?_))
    refine ds_seq (ds_isE (a0 := a0) (C := a.c_NotThere) (d0 := d0) (l0 := kF one two three 11) rfl hpn T.e_NotThere T.e_BadName (nodup_ne T.ne (i := 0) (j := 6) rfl rfl (by decide)) (fun z => (nodup_ne T.ne (i := 12) (j := 6) rfl rfl (by decide) z).elim) (fun _ => ?_))
    refine ds_seq (ds_isE (a0 := a0) (C := a.c_NotThere) (d0 := d0) (l0 := kF one two three 11) rfl hpn T.e_NotThere T.e_BadText (nodup_ne T.ne (i := 0) (j := 7) rfl rfl (by decide)) (fun z => (nodup_ne T.ne (i := 12) (j := 7) rfl rfl (by decide) z).elim) (fun _ => ?_))
    refine ds_seq (ds_isE (a0 := a0) (C := a.c_NotThere) (d0 := d0) (l0 := kF one two three 11) rfl hpn T.e_NotThere T.e_NoPlace (nodup_ne T.ne (i := 0) (j := 8) rfl rfl (by decide)) (fun z => (nodup_ne T.ne (i := 12) (j := 8) rfl rfl (by decide) z).elim) (fun _ => ?_))
    exact ds_ret (de_new (dn_addL_own rfl (de_callP EL.no trivial (dc_cons (de_var rfl (dc_nil ⟨11, a0, d0, one, two, three, by decide, hpn, rfl, h1, h2, _, rfl, (show 1 ≤ 16000 by decide), hR⟩))))))
  · have hR : R (.lst [kT one two three 12]) := hR
    refine ds_seq (ds_isE (a0 := a0) (C := a.c_TooMany) (d0 := d0) (l0 := kF one two three 12) rfl hpn T.e_TooMany T.e_BadNumber (nodup_ne T.ne (i := 0) (j := 1) rfl rfl (by decide)) (fun z => (nodup_ne T.ne (i := 13) (j := 1) rfl rfl (by decide) z).elim) (fun _ => ?_))
    refine ds_seq (ds_isE (a0 := a0) (C := a.c_TooMany) (d0 := d0) (l0 := kF one two three 12) rfl hpn T.e_TooMany T.e_BadRow (nodup_ne T.ne (i := 0) (j := 2) rfl rfl (by decide)) (fun z => (nodup_ne T.ne (i := 13) (j := 2) rfl rfl (by decide) z).elim) (fun _ => ?_))
    refine ds_seq (ds_isE (a0 := a0) (C := a.c_TooMany) (d0 := d0) (l0 := kF one two three 12) rfl hpn T.e_TooMany T.e_BadTable (nodup_ne T.ne (i := 0) (j := 3) rfl rfl (by decide)) (fun z => (nodup_ne T.ne (i := 13) (j := 3) rfl rfl (by decide) z).elim) (fun _ => ?_))
    refine ds_seq (ds_isE (a0 := a0) (C := a.c_TooMany) (d0 := d0) (l0 := kF one two three 12) rfl hpn T.e_TooMany T.e_BadForm (nodup_ne T.ne (i := 0) (j := 4) rfl rfl (by decide)) (fun z => (nodup_ne T.ne (i := 13) (j := 4) rfl rfl (by decide) z).elim) (fun _ => ?_))
    refine ds_seq (ds_isE (a0 := a0) (C := a.c_TooMany) (d0 := d0) (l0 := kF one two three 12) rfl hpn T.e_TooMany T.e_BadBook (nodup_ne T.ne (i := 0) (j := 5) rfl rfl (by decide)) (fun z => (nodup_ne T.ne (i := 13) (j := 5) rfl rfl (by decide) z).elim) (fun _ => ?_))
    refine ds_seq (ds_isE (a0 := a0) (C := a.c_TooMany) (d0 := d0) (l0 := kF one two three 12) rfl hpn T.e_TooMany T.e_BadName (nodup_ne T.ne (i := 0) (j := 6) rfl rfl (by decide)) (fun z => (nodup_ne T.ne (i := 13) (j := 6) rfl rfl (by decide) z).elim) (fun _ => ?_))
    refine ds_seq (ds_isE (a0 := a0) (C := a.c_TooMany) (d0 := d0) (l0 := kF one two three 12) rfl hpn T.e_TooMany T.e_BadText (nodup_ne T.ne (i := 0) (j := 7) rfl rfl (by decide)) (fun z => (nodup_ne T.ne (i := 13) (j := 7) rfl rfl (by decide) z).elim) (fun _ => ?_))
    refine ds_seq (ds_isE (a0 := a0) (C := a.c_TooMany) (d0 := d0) (l0 := kF one two three 12) rfl hpn T.e_TooMany T.e_NoPlace (nodup_ne T.ne (i := 0) (j := 8) rfl rfl (by decide)) (fun z => (nodup_ne T.ne (i := 13) (j := 8) rfl rfl (by decide) z).elim) (fun _ => ?_))
    exact ds_ret (de_new (dn_addL_own rfl (de_callP EL.no trivial (dc_cons (de_var rfl (dc_nil ⟨12, a0, d0, one, two, three, by decide, hpn, rfl, h1, h2, _, rfl, (show 1 ≤ 16000 by decide), hR⟩))))))
  · have hR : R (.lst [kT one two three 13]) := hR
    refine ds_seq (ds_isE (a0 := a0) (C := a.c_NotKept) (d0 := d0) (l0 := kF one two three 13) rfl hpn T.e_NotKept T.e_BadNumber (nodup_ne T.ne (i := 0) (j := 1) rfl rfl (by decide)) (fun z => (nodup_ne T.ne (i := 14) (j := 1) rfl rfl (by decide) z).elim) (fun _ => ?_))
    refine ds_seq (ds_isE (a0 := a0) (C := a.c_NotKept) (d0 := d0) (l0 := kF one two three 13) rfl hpn T.e_NotKept T.e_BadRow (nodup_ne T.ne (i := 0) (j := 2) rfl rfl (by decide)) (fun z => (nodup_ne T.ne (i := 14) (j := 2) rfl rfl (by decide) z).elim) (fun _ => ?_))
    refine ds_seq (ds_isE (a0 := a0) (C := a.c_NotKept) (d0 := d0) (l0 := kF one two three 13) rfl hpn T.e_NotKept T.e_BadTable (nodup_ne T.ne (i := 0) (j := 3) rfl rfl (by decide)) (fun z => (nodup_ne T.ne (i := 14) (j := 3) rfl rfl (by decide) z).elim) (fun _ => ?_))
    refine ds_seq (ds_isE (a0 := a0) (C := a.c_NotKept) (d0 := d0) (l0 := kF one two three 13) rfl hpn T.e_NotKept T.e_BadForm (nodup_ne T.ne (i := 0) (j := 4) rfl rfl (by decide)) (fun z => (nodup_ne T.ne (i := 14) (j := 4) rfl rfl (by decide) z).elim) (fun _ => ?_))
    refine ds_seq (ds_isE (a0 := a0) (C := a.c_NotKept) (d0 := d0) (l0 := kF one two three 13) rfl hpn T.e_NotKept T.e_BadBook (nodup_ne T.ne (i := 0) (j := 5) rfl rfl (by decide)) (fun z => (nodup_ne T.ne (i := 14) (j := 5) rfl rfl (by decide) z).elim) (fun _ => ?_))
    refine ds_seq (ds_isE (a0 := a0) (C := a.c_NotKept) (d0 := d0) (l0 := kF one two three 13) rfl hpn T.e_NotKept T.e_BadName (nodup_ne T.ne (i := 0) (j := 6) rfl rfl (by decide)) (fun z => (nodup_ne T.ne (i := 14) (j := 6) rfl rfl (by decide) z).elim) (fun _ => ?_))
    refine ds_seq (ds_isE (a0 := a0) (C := a.c_NotKept) (d0 := d0) (l0 := kF one two three 13) rfl hpn T.e_NotKept T.e_BadText (nodup_ne T.ne (i := 0) (j := 7) rfl rfl (by decide)) (fun z => (nodup_ne T.ne (i := 14) (j := 7) rfl rfl (by decide) z).elim) (fun _ => ?_))
    refine ds_seq (ds_isE (a0 := a0) (C := a.c_NotKept) (d0 := d0) (l0 := kF one two three 13) rfl hpn T.e_NotKept T.e_NoPlace (nodup_ne T.ne (i := 0) (j := 8) rfl rfl (by decide)) (fun z => (nodup_ne T.ne (i := 14) (j := 8) rfl rfl (by decide) z).elim) (fun _ => ?_))
    exact ds_ret (de_new (dn_addL_own rfl (de_callP EL.no trivial (dc_cons (de_var rfl (dc_nil ⟨13, a0, d0, one, two, three, by decide, hpn, rfl, h1, h2, _, rfl, (show 1 ≤ 16000 by decide), hR⟩))))))
  · have hR : R (.lst [kT one two three 14]) := hR
    refine ds_seq (ds_isE (a0 := a0) (C := a.c_NothingToUndo) (d0 := d0) (l0 := kF one two three 14) rfl hpn T.e_NothingToUndo T.e_BadNumber (nodup_ne T.ne (i := 0) (j := 1) rfl rfl (by decide)) (fun z => (nodup_ne T.ne (i := 15) (j := 1) rfl rfl (by decide) z).elim) (fun _ => ?_))
    refine ds_seq (ds_isE (a0 := a0) (C := a.c_NothingToUndo) (d0 := d0) (l0 := kF one two three 14) rfl hpn T.e_NothingToUndo T.e_BadRow (nodup_ne T.ne (i := 0) (j := 2) rfl rfl (by decide)) (fun z => (nodup_ne T.ne (i := 15) (j := 2) rfl rfl (by decide) z).elim) (fun _ => ?_))
    refine ds_seq (ds_isE (a0 := a0) (C := a.c_NothingToUndo) (d0 := d0) (l0 := kF one two three 14) rfl hpn T.e_NothingToUndo T.e_BadTable (nodup_ne T.ne (i := 0) (j := 3) rfl rfl (by decide)) (fun z => (nodup_ne T.ne (i := 15) (j := 3) rfl rfl (by decide) z).elim) (fun _ => ?_))
    refine ds_seq (ds_isE (a0 := a0) (C := a.c_NothingToUndo) (d0 := d0) (l0 := kF one two three 14) rfl hpn T.e_NothingToUndo T.e_BadForm (nodup_ne T.ne (i := 0) (j := 4) rfl rfl (by decide)) (fun z => (nodup_ne T.ne (i := 15) (j := 4) rfl rfl (by decide) z).elim) (fun _ => ?_))
    refine ds_seq (ds_isE (a0 := a0) (C := a.c_NothingToUndo) (d0 := d0) (l0 := kF one two three 14) rfl hpn T.e_NothingToUndo T.e_BadBook (nodup_ne T.ne (i := 0) (j := 5) rfl rfl (by decide)) (fun z => (nodup_ne T.ne (i := 15) (j := 5) rfl rfl (by decide) z).elim) (fun _ => ?_))
    refine ds_seq (ds_isE (a0 := a0) (C := a.c_NothingToUndo) (d0 := d0) (l0 := kF one two three 14) rfl hpn T.e_NothingToUndo T.e_BadName (nodup_ne T.ne (i := 0) (j := 6) rfl rfl (by decide)) (fun z => (nodup_ne T.ne (i := 15) (j := 6) rfl rfl (by decide) z).elim) (fun _ => ?_))
    refine ds_seq (ds_isE (a0 := a0) (C := a.c_NothingToUndo) (d0 := d0) (l0 := kF one two three 14) rfl hpn T.e_NothingToUndo T.e_BadText (nodup_ne T.ne (i := 0) (j := 7) rfl rfl (by decide)) (fun z => (nodup_ne T.ne (i := 15) (j := 7) rfl rfl (by decide) z).elim) (fun _ => ?_))
    refine ds_seq (ds_isE (a0 := a0) (C := a.c_NothingToUndo) (d0 := d0) (l0 := kF one two three 14) rfl hpn T.e_NothingToUndo T.e_NoPlace (nodup_ne T.ne (i := 0) (j := 8) rfl rfl (by decide)) (fun z => (nodup_ne T.ne (i := 15) (j := 8) rfl rfl (by decide) z).elim) (fun _ => ?_))
    exact ds_ret (de_new (dn_addL_own rfl (de_callP EL.no trivial (dc_cons (de_var rfl (dc_nil ⟨14, a0, d0, one, two, three, by decide, hpn, rfl, h1, h2, _, rfl, (show 1 ≤ 16000 by decide), hR⟩))))))
  · have hR : R (.lst [kT one two three 15]) := hR
    refine ds_seq (ds_isE (a0 := a0) (C := a.c_NothingToRedo) (d0 := d0) (l0 := kF one two three 15) rfl hpn T.e_NothingToRedo T.e_BadNumber (nodup_ne T.ne (i := 0) (j := 1) rfl rfl (by decide)) (fun z => (nodup_ne T.ne (i := 16) (j := 1) rfl rfl (by decide) z).elim) (fun _ => ?_))
    refine ds_seq (ds_isE (a0 := a0) (C := a.c_NothingToRedo) (d0 := d0) (l0 := kF one two three 15) rfl hpn T.e_NothingToRedo T.e_BadRow (nodup_ne T.ne (i := 0) (j := 2) rfl rfl (by decide)) (fun z => (nodup_ne T.ne (i := 16) (j := 2) rfl rfl (by decide) z).elim) (fun _ => ?_))
    refine ds_seq (ds_isE (a0 := a0) (C := a.c_NothingToRedo) (d0 := d0) (l0 := kF one two three 15) rfl hpn T.e_NothingToRedo T.e_BadTable (nodup_ne T.ne (i := 0) (j := 3) rfl rfl (by decide)) (fun z => (nodup_ne T.ne (i := 16) (j := 3) rfl rfl (by decide) z).elim) (fun _ => ?_))
    refine ds_seq (ds_isE (a0 := a0) (C := a.c_NothingToRedo) (d0 := d0) (l0 := kF one two three 15) rfl hpn T.e_NothingToRedo T.e_BadForm (nodup_ne T.ne (i := 0) (j := 4) rfl rfl (by decide)) (fun z => (nodup_ne T.ne (i := 16) (j := 4) rfl rfl (by decide) z).elim) (fun _ => ?_))
    refine ds_seq (ds_isE (a0 := a0) (C := a.c_NothingToRedo) (d0 := d0) (l0 := kF one two three 15) rfl hpn T.e_NothingToRedo T.e_BadBook (nodup_ne T.ne (i := 0) (j := 5) rfl rfl (by decide)) (fun z => (nodup_ne T.ne (i := 16) (j := 5) rfl rfl (by decide) z).elim) (fun _ => ?_))
    refine ds_seq (ds_isE (a0 := a0) (C := a.c_NothingToRedo) (d0 := d0) (l0 := kF one two three 15) rfl hpn T.e_NothingToRedo T.e_BadName (nodup_ne T.ne (i := 0) (j := 6) rfl rfl (by decide)) (fun z => (nodup_ne T.ne (i := 16) (j := 6) rfl rfl (by decide) z).elim) (fun _ => ?_))
    refine ds_seq (ds_isE (a0 := a0) (C := a.c_NothingToRedo) (d0 := d0) (l0 := kF one two three 15) rfl hpn T.e_NothingToRedo T.e_BadText (nodup_ne T.ne (i := 0) (j := 7) rfl rfl (by decide)) (fun z => (nodup_ne T.ne (i := 16) (j := 7) rfl rfl (by decide) z).elim) (fun _ => ?_))
    refine ds_seq (ds_isE (a0 := a0) (C := a.c_NothingToRedo) (d0 := d0) (l0 := kF one two three 15) rfl hpn T.e_NothingToRedo T.e_NoPlace (nodup_ne T.ne (i := 0) (j := 8) rfl rfl (by decide)) (fun z => (nodup_ne T.ne (i := 16) (j := 8) rfl rfl (by decide) z).elim) (fun _ => ?_))
    exact ds_ret (de_new (dn_addL_own rfl (de_callP EL.no trivial (dc_cons (de_var rfl (dc_nil ⟨15, a0, d0, one, two, three, by decide, hpn, rfl, h1, h2, _, rfl, (show 1 ≤ 16000 by decide), hR⟩))))))
end
end Law

set_option Elab.async false
set_option linter.all false
set_option maxRecDepth 100000
set_option maxHeartbeats 4000000
namespace Law
open PySem PySem.Spec PyProof.Rows L2 G
theorem kE {K : PySem.W.Frag} {mg : Str → Option Value} {a : Ad} (T : Tx K mg a) {k : Nat} (hk : k < 16) : ErrK K (kC a k) (.ref a.c_GenusError :: veT) := by
  have hk' : k = 0 ∨ k = 1 ∨ k = 2 ∨ k = 3 ∨ k = 4 ∨ k = 5 ∨ k = 6 ∨ k = 7 ∨ k = 8 ∨ k = 9 ∨ k = 10 ∨ k = 11 ∨ k = 12 ∨ k = 13 ∨ k = 14 ∨ k = 15 := by omega
  rcases hk' with rfl | rfl | rfl | rfl | rfl | rfl | rfl | rfl | rfl | rfl | rfl | rfl | rfl | rfl | rfl | rfl
  · exact T.e_BadNumber
  · exact T.e_BadRow
  · exact T.e_BadTable
  · exact T.e_BadForm
  · exact T.e_BadBook
  · exact T.e_BadName
  · exact T.e_BadText
  · exact T.e_NoPlace
  · exact T.e_NoName
  · exact T.e_TakenName
  · exact T.e_Unlike
  · exact T.e_NotThere
  · exact T.e_TooMany
  · exact T.e_NotKept
  · exact T.e_NothingToUndo
  · exact T.e_NothingToRedo
/-- what _law_fault tells of what it was handed -/
def FoF (a : Ad) (Qb : D → Prop) (X : Addr → List (Str × D) → Prop) (R : D → Prop) : Prop :=
  (∀ d, Qb d → R .non) ∧ ∀ C fs, X C fs → ∃ (k : Nat) (one two three : D), k < 16 ∧ C = kC a k ∧ fs = kF one two three k ∧ ((k = 5 ∨ k = 8 ∨ k = 9) → okR one) ∧ ((k = 0 ∨ k = 1 ∨ k = 7) → okR two) ∧ R (kT one two three k)
theorem gives__law_fault {P : Program} {w : World} {K : PySem.W.Frag} {mg : Str → Option Value} {base : Heap} {A : Around} {st : List Env} {a : Ad} {k : Nat} {q : Str} (T : Tx K mg a) (hS : Sy mg base a) (cdg : Value) : GivesG P w K mg base A st (k + 1) nm__law_fault "_law_fault" (defScope s__law_fault) a.f__law_fault cdg (defBody s__law_fault) "call" q (TTd K (FoF a)) := by
  intro f c' s H Q tl hr act hcd h
  obtain ⟨b0, Hf, Qb, Xf, R, hx, htl, ⟨hN, hK⟩, hQ⟩ := h
  have hk2 : 2 ≤ k + 1 + 1 := by omega
  refine ⟨_, (pss_cons (ps_set (i := 1) sc__law_fault.nd rfl (Or.inl rfl) pe_non)
      (pss_cons (ps_tryD (i := 2) rfl rfl sc__law_fault.nd rfl rfl ⟨by rfl, by decide, Or.inl T.g_GenusError⟩ (takes_of rfl rfl rfl rfl) (fun W pn xe tkW pO => (pss_one (ps_expr (act pn xe (WE W) _ _ (passAt tkW))))) (fun a0 oe cls d0 pn hz hf => (pss_cons (ps_set (i := 1) sc__law_fault.nd rfl (Or.inl rfl) (pe_goX (ok__law_kinds T hS) hz hf ((hr.mark (some (.ref a0))).mono hk2) List.mem_cons_self (by rfl) T.g__law_kinds T.F__law_kinds.kp T.b__law_kinds lets0 (pa_cons (pv 2) pa_nil)))
      (pss_one (ps_set (i := 1) sc__law_fault.nd rfl (Or.inl rfl) (pe_ifExp (PW.pt (pw_and (pt_cmpR (show OpR _ _ (rEqG K) from op_eqG (hr.mark (some (.ref a0))).hu) (pe_callB (show CallR _ _ (rLenV K) from call_lenV) (by rfl) T.n_len PySem.boot_len (pa_cons (pv 1) pa_nil)) pe_int (nomark _)) (pw_and1 (pt_val (pe_callB (show CallR _ _ (rIsG K (fun a' d' C' => a' = a0 ∧ d' = d0 ∧ Value.ref C' = cls ∧ XcC K C')) from call_isG (fun a' d' C' z => pnp_of (pn := pn) hz hf z)) (by rfl) T.n_isinstance PyProof.Rows.boot_isinstance (pa_cons (pv 2) (pa_cons (pe_bltn (v := .ty "ValueError") (by rfl) T.n_ValueError (by decide +kernel) rfl) pa_nil))))))) (pe_ix (show IxR _ (rIx K) from ix_seq) (pv 1) pe_int (fun _ _ => rfl)) (pe_tup (pa_cons pe_str (pa_cons (pe_callB (show CallR _ _ (rLenV K) from call_lenV) (by rfl) T.n_len PySem.boot_len (pa_cons (pv 1) pa_nil)) pa_nil)))))))))
      (pss_one (ps_ret (pv 1))))), ?_⟩
  have c0 : (b0.cut Hf H).B c' = some (LamX.CodeO c' q) := by
    show (if c' ∈ b0.M ∨ c' ∈ b0.T.map (·.1) then none else H c') = _
    rw [if_neg ?_]
    · exact hcd
    · rintro (z | z)
      · obtain ⟨_, _, o, e1, _, _, _, _, _, _, e2, _⟩ := hx.pens c' z
        rw [hcd] at e1
        rw [← Option.some.inj e1] at e2
        unfold LamX.CodeO at e2
        cases e2
      · obtain ⟨p, hp, e⟩ := List.mem_map.mp z
        obtain ⟨_, _, _, ps, e1, _⟩ := hx.tabs p hp
        rw [e, hcd] at e1
        exact LamX.codeO_ne ps (Option.some.inj e1)
  have fr : Fm K (b0.cut Hf H) Hf H (L2.start nm__law_fault [.ref f]) [.sh (.fn f), .no, .no] := by
    have own : ∀ i u, ¬ Own (L2.start nm__law_fault [.ref f]) [.sh (.fn f), .no, .no] i u := fun i u z => by
      obtain ⟨⟨ds, h1⟩, _⟩ := z
      match i with
      | 0 => cases h1
      | 1 => cases h1
      | 2 => cases h1
      | i + 3 => simp at h1
    refine { ex := hx.cut, len := rfl, sl := fun i o s h1 h2 => ?_, mine := fun i u z => (own i u z).elim, sep := fun i j u z => (own i u z).elim }
    match i with
    | 0 =>
      cases h1; cases h2
      exact Rp.fn f
    | 1 =>
      cases h1; cases h2
      trivial
    | 2 =>
      cases h1; cases h2
      trivial
    | i + 3 => simp at h2
  refine (show DS K (b0.cut Hf H) [.sh (.fn f), .no, .no] _ (fun _ => R .non) R (fun _ => False) (fun _ => False) from ?_) Hf H _ _ fr (fun ρ' σ' Hf' H' e fr q => hQ .non .non Hf' H' fr.ex .non q) (fun v d Hf' H' e x r q => hQ v d Hf' H' x r q) (fun _ _ _ _ _ _ z => z.elim) (fun _ _ _ _ _ _ z => z.elim)
  refine ds_seq (ds_asg (de_non ?_))
  refine ds_seq (ds_try Xf (fun d z => nomatch z) (fun b' W sub hE => ?_) (fun b' C fs sub hx => ?_))
  · refine ds_drop (de_act htl sub sub.M sub.T c0 (nx := []) hE rfl (fun i s h => ?_) (fun d hd => ds_ret (de_var rfl (hN d hd))))
    match i with
    | 0 => cases h; exact Or.inr (Or.inr rfl)
    | 1 => cases h; exact Or.inr (Or.inl rfl)
    | 2 => cases h; exact Or.inl rfl
    | i + 3 => simp at h
  · obtain ⟨k, one, two, three, hk, rfl, rfl, h1, h2, hR⟩ := hK C fs hx
    have e := kE T hk
    refine ⟨(e.exm T.e_GenusError vees0).trans (by rw [contains_base]), fun a0 d0 => ?_⟩
    have xc := e.xc T.eb vees
    refine ds_seq (ds_asg (de_callX EL.no (dc_cons (de_var rfl (dc_nil fun oe hz hf => ⟨trivial, k, a0, d0, one, two, three, hk, ⟨oe, List.mem_singleton.mpr rfl, hz, hf, xc⟩, rfl, h1, h2, ?_⟩)))))
    refine ds_asg (de_ite (dt_and (dt_test (de_eqI (de_len (de_var rfl ⟨1, rfl, de_int ⟨1, 1, rfl, rfl, true, rfl, iteT ?_⟩⟩))))))
    refine dt_test (de_isX (.ty "ValueError") (de_var rfl ⟨a0, d0, kC a k, kF one two three k, true, rfl, ⟨rfl, rfl, rfl, xc⟩, e.kitT vees, true, rfl, iteT ?_⟩))
    exact de_ix (de_var rfl (de_int ⟨0, kT one two three k, rfl, rfl, ds_ret (de_var rfl hR)⟩))
end Law

set_option Elab.async false
set_option linter.all false
set_option maxRecDepth 100000
set_option maxHeartbeats 4000000
namespace Law
open PySem PySem.Spec PyProof.Rows L2 G
section
variable {P : Program} {w : World} {K : PySem.W.Frag} {mg : Str → Option Value} {base : Heap} {a : Ad}
def isI : D → Bool
  | .int _ => true
  | _ => false
/-- plain: a built-in class is told -/
def Pl (x : D) : Prop := ∃ t, tyD x = some t
def F_isI : DF := fun ss R _ => ∃ x, ss = [.sh x] ∧ Pl x ∧ R (.bl (isI x))
theorem de_isInt {b : Bs} {ρ : List Sl} {pn : PinP} {i : Nat} {x : D} {Q : D → Prop} (hi : ρ[i]? = some (.sh x)) (hx : Pl x) (q : Q (.bl (isI x))) :
    DE K b ρ (tAndV (tCB (rIsG K pn) (tCons (tVar i) (tCons (tC (.ty "int")) tNil))) (tNotV (tCB (rIsG K pn) (tCons (tVar i) (tCons (tC (.ty "bool")) tNil))))) Q := by
  obtain ⟨t, ht⟩ := hx
  cases x with
  | non => exact de_andV (de_isT (de_var hi ⟨_, false, rfl, by decide +kernel, false, rfl, iteF q⟩))
  | str s => exact de_andV (de_isT (de_var hi ⟨_, false, rfl, by decide +kernel, false, rfl, iteF q⟩))
  | tup l => exact de_andV (de_isT (de_var hi ⟨_, false, rfl, by decide +kernel, false, rfl, iteF q⟩))
  | lst l => exact de_andV (de_isT (de_var hi ⟨_, false, rfl, by decide +kernel, false, rfl, iteF q⟩))
  | dic l => exact de_andV (de_isT (de_var hi ⟨_, false, rfl, by decide +kernel, false, rfl, iteF q⟩))
  | bl c => exact de_andV (de_isT (de_var hi ⟨_, true, rfl, by decide +kernel, true, rfl, iteT (de_notV (de_isT (de_var hi ⟨_, true, rfl, by decide +kernel, true, rfl, q⟩)))⟩))
  | int c => exact de_andV (de_isT (de_var hi ⟨_, true, rfl, by decide +kernel, true, rfl, iteT (de_notV (de_isT (de_var hi ⟨_, false, rfl, by decide +kernel, false, rfl, q⟩)))⟩))
  | ty _ => cases ht
  | fn _ => cases ht
  | obj _ _ => cases ht
  | exc _ _ _ _ => cases ht
theorem ok_is_integer (T : Tx K mg a) (hS : Sy mg base a) : FnG P w K mg base true 1 a.f_is_integer a.d_is_integer (["value"] : List Str) (fun _ => spD K F_isI) := by
  refine fn_data T.F_is_integer sc_is_integer (fun ss R X z => by obtain ⟨_, h, _⟩ := z; rw [h] <;> rfl) fun cdv A outer s H E pl hr => ⟨_, (pss_one (ps_ret (pe_and (pe_callB (call_isG (pn := (fun _ _ _ => False)) (fun _ _ _ z => z.elim)) (by rfl) T.n_isinstance PyProof.Rows.boot_isinstance (pa_cons (pv 0) (pa_cons (pe_bltn (v := .ty "int") (by rfl) T.n_int PyProof.Rows.boot_int rfl) pa_nil))) (pe_one (pe_not (pe_callB (call_isG (pn := (fun _ _ _ => False)) (fun _ _ _ z => z.elim)) (by rfl) T.n_isinstance PyProof.Rows.boot_isinstance (pa_cons (pv 0) (pa_cons (pe_bltn (v := .ty "bool") (by rfl) T.n_bool PyProof.Rows.boot_bool rfl) pa_nil)))))))), fun b ss R X h hX => ?_⟩
  obtain ⟨x, rfl, hx, q⟩ := h
  exact ds_ret (de_isInt rfl hx q)
/-- plain, and where it is a pair its parts are -/
def Pr (x : D) : Prop := Pl x ∧ ∀ u v, x = .tup [u, v] → Pl u ∧ Pl v
def pairOk : D → D → Bool
  | .int i, .int j => decide (j > 1) && decide (((Nat.gcd i.natAbs j.natAbs : Nat) : Int) = 1)
  | _, _ => false
def isRt : D → Bool
  | .tup [u, v] => pairOk u v
  | .tup _ => false
  | x => isI x
def F_isRt : DF := fun ss R _ => ∃ x, ss = [.sh x] ∧ Pr x ∧ R (.bl (isRt x))
theorem isRt_pair {u v : D} (h : isI u = false ∨ isI v = false) : isRt (.tup [u, v]) = false := by
  cases u <;> cases v <;> first | rfl | (simp [isI] at h)

theorem abs_if (i : Int) : (if i < 0 then -i else i) = (i.natAbs : Int) := by
  split <;> omega
theorem fmod_nat (x y : Nat) : ((x : Int)).fmod y = ((x % y : Nat) : Int) := by
  rw [Int.fmod_eq_emod_of_nonneg _ (by omega)]
  exact (Int.natCast_emod x y).symm
/-- what a ratio is divided by to be in lowest terms -/
def byZ (t v : Int) : Int := if v < 0 then -((Nat.gcd t.natAbs v.natAbs : Nat) : Int) else ((Nat.gcd t.natAbs v.natAbs : Nat) : Int)
def lowZ (t v : Int) : D := if v = byZ t v then .int (t.fdiv (byZ t v)) else .tup [.int (t.fdiv (byZ t v)), .int (v.fdiv (byZ t v))]
theorem byZ_facts {t v : Int} (h : v ≠ 0) : byZ t v ≠ 0 ∧ (byZ t v).natAbs ≤ v.natAbs := by
  have g0 : 0 < Nat.gcd t.natAbs v.natAbs := Nat.gcd_pos_of_pos_right _ (by omega)
  have g1 : Nat.gcd t.natAbs v.natAbs ≤ v.natAbs := Nat.le_of_dvd (by omega) (Nat.gcd_dvd_right _ _)
  unfold byZ
  split <;> omega
theorem log_of_le {x y : Int} (h : x.natAbs ≤ y.natAbs) (h0 : x ≠ 0) {n : Nat} (hy : y.natAbs.log2 < n) : x.natAbs.log2 < n := by
  have : y.natAbs < 2 ^ n := (Nat.log2_lt (by omega)).mp hy
  exact (Nat.log2_lt (by omega)).mpr (by omega)
/-- a ratio's two ends -/
inductive RtV : D → Int → Int → Prop
  | int (t : Int) : RtV (.int t) t 1
  | pair (t b : Int) (h1 : 1 < b) (h2 : Nat.gcd t.natAbs b.natAbs = 1) : RtV (.tup [.int t, .int b]) t b
def oppD : D → D
  | .int t => .int (-t)
  | .tup [.int t, b] => .tup [.int (-t), b]
  | x => x
theorem RtV.opp {x : D} {t b : Int} (h : RtV x t b) : RtV (oppD x) (-t) b := by
  cases h with
  | int t => exact .int _
  | pair t b h1 h2 => exact .pair _ _ h1 (by rw [Int.natAbs_neg]; exact h2)
theorem RtV.pos {x : D} {t b : Int} (h : RtV x t b) : 0 < b := by
  cases h with
  | int t => decide
  | pair t b h1 h2 => omega
theorem RtV.pl {x : D} {t b : Int} (h : RtV x t b) : Pl x := by
  cases h <;> exact ⟨_, rfl⟩
theorem RtV.pr {x : D} {t b : Int} (h : RtV x t b) : Pr x := by
  refine ⟨h.pl, fun u v e => ?_⟩
  cases h with
  | int t => cases e
  | pair t b h1 h2 => cases e; exact ⟨⟨_, rfl⟩, ⟨_, rfl⟩⟩
theorem RtV.rt {x : D} {t b : Int} (h : RtV x t b) : isRt x = true := by
  cases h with
  | int t => rfl
  | pair t b h1 h2 =>
    show (decide (b > 1) && decide (((Nat.gcd t.natAbs b.natAbs : Nat) : Int) = 1)) = true
    rw [h2, decide_eq_true h1] <;> rfl
theorem lowZ_one (t : Int) : lowZ t 1 = .int t := by
  have g : byZ t 1 = 1 := by
    unfold byZ
    rw [if_neg (by decide), show Nat.gcd t.natAbs (1 : Int).natAbs = 1 from Nat.gcd_one_right _] <;> rfl
  unfold lowZ
  rw [g, if_pos rfl]
  have : t.fdiv 1 = t := by
    rw [Int.fdiv_eq_ediv_of_nonneg _ (by decide)]
    exact Int.ediv_one t
  rw [this]
def F_div : DF := fun ss R _ => ∃ u v : Int, ss = [.sh (.int u), .sh (.int v)] ∧ R (.int ((Nat.gcd u.natAbs v.natAbs : Nat) : Int))
theorem ok__law_divisor (T : Tx K mg a) (hS : Sy mg base a) : FnG P w K mg base true 1 a.f__law_divisor a.d__law_divisor (["one", "other"] : List Str) (fun _ => spD K F_div) := by
  refine fn_data T.F__law_divisor sc__law_divisor (fun ss R X z => by obtain ⟨_, _, h, _⟩ := z; rw [h] <;> rfl) fun cdv A outer s H E pl hr => ⟨_, (pss_cons (ps_par (i := 0) (j := 1) rfl sc__law_divisor.nd rfl rfl (by decide) rfl rfl (pa_cons (pe_callB call_absV (by rfl) T.n_abs (by decide +kernel) (pa_cons (pv 0) pa_nil)) (pa_cons (pe_callB call_absV (by rfl) T.n_abs (by decide +kernel) (pa_cons (pv 1) pa_nil)) pa_nil)) rfl)
      (pss_cons (ps_while (passes_of rfl) (pt_cmpR (op_neG hr.hu) (pv 1) pe_int (nomark _)) (pss_one (ps_par (i := 0) (j := 1) rfl sc__law_divisor.nd rfl rfl (by decide) rfl rfl (pa_cons (pv 1) (pa_cons (pe_op op_modN (pe_callTy call_intV (by rfl) T.n_int PyProof.Rows.boot_int (pa_cons (pv 0) pa_nil)) (pv 1)) pa_nil)) rfl)))
      (pss_one (ps_ret (pv 0))))), fun b ss R X h hX => ?_⟩
  obtain ⟨u, v, rfl, q⟩ := h
  refine ds_seq (ds_par (da_cons (de_abs (de_var rfl ⟨u, rfl, da_cons (de_abs (de_var rfl ⟨v, rfl, da_nil ⟨_, _, rfl, ?_⟩⟩))⟩))))
  rw [abs_if, abs_if]
  refine ds_seq (ds_while (fun m ρ => ∃ x y : Nat, ρ = [.sh (.int x), .sh (.int y)] ∧ Nat.gcd x y = Nat.gcd u.natAbs v.natAbs ∧ m = y) v.natAbs ⟨_, _, rfl, rfl, rfl⟩ (fun m ρ h => ?_))
  obtain ⟨x, y, rfl, hg, rfl⟩ := h
  refine dt_test (de_neI (de_var rfl (de_int ⟨m, 0, rfl, rfl, _, rfl, ?_⟩)))
  refine ite2 (fun z => ?_) (fun z => ?_)
  · have z' : m ≠ 0 := by
      have : (m : Int) ≠ 0 := by simpa using z
      omega
    refine ds_par (da_cons (de_var rfl (da_cons (de_II (de_intc (de_var rfl (Or.inl ⟨x, rfl, de_var rfl ⟨x, m, rfl, rfl, by omega, da_nil ⟨_, _, rfl, x % m, Nat.mod_lt _ (by omega), m, x % m, ?_, ?_, rfl⟩⟩⟩)))))))
    · rw [fmod_nat]; rfl
    · rw [← hg, Nat.gcd_comm x m]
      exact (Nat.gcd_rec m x).trans (Nat.gcd_comm _ _) |>.symm
  · have z' : m = 0 := by
      have : (m : Int) = 0 := by simpa using z
      omega
    subst z'
    rw [Nat.gcd_zero_right] at hg
    subst hg
    exact ds_ret (de_var rfl q)
def F_low : DF := fun ss R _ => ∃ t v : Int, ss = [.sh (.int t), .sh (.int v)] ∧ v ≠ 0 ∧ v.natAbs.log2 < 9000 ∧ R (lowZ t v)
theorem ok__law_low (T : Tx K mg a) (hS : Sy mg base a) : FnG P w K mg base true 2 a.f__law_low a.d__law_low (["top", "bottom"] : List Str) (fun _ => spD K F_low) := by
  refine fn_data T.F__law_low sc__law_low (fun ss R X z => by obtain ⟨_, _, h, _⟩ := z; rw [h] <;> rfl) fun cdv A outer s H E pl hr => ⟨_, (pss_cons (ps_set (i := 2) sc__law_low.nd rfl (Or.inl rfl) (pe_go (ok__law_divisor T hS) (hr.mono (by decide)) (pl := []) (fun _ h => nomatch h) (by rfl) T.g__law_divisor T.F__law_divisor.kp T.b__law_divisor lets0 (pa_cons (pv 0) (pa_cons (pv 1) pa_nil))))
      (pss_cons (ps_if (pt_cmpR op_lt (pv 1) pe_int (nomark _)) (pss_one (ps_set (i := 2) sc__law_low.nd rfl (Or.inl rfl) (pe_un un_neg (pv 2)))) pss_nil)
      (pss_one (ps_ret (pe_ifExp (pt_cmpR (op_eqG hr.hu) (pv 1) (pv 2) (nomark _)) (pe_op op_fdivG (pv 0) (pv 2)) (pe_tup (pa_cons (pe_op op_fdivG (pv 0) (pv 2)) (pa_cons (pe_op op_fdivG (pv 1) (pv 2)) pa_nil)))))))), fun b ss R X h hX => ?_⟩
  obtain ⟨t, v, rfl, hv, hv2, q⟩ := h
  obtain ⟨b0, b1⟩ := byZ_facts (t := t) hv
  have cd : ∀ i : Int, CDivA i (byZ t v) := fun i => ⟨b0, log_of_le b1 b0 hv2⟩
  refine ds_seq (ds_asg (de_call EL.no (dc_cons (de_var rfl (dc_cons (de_var rfl (dc_nil ⟨t, v, rfl, ?_⟩)))))))
  refine ds_seq (DS.mid (mid := fun ρ => ρ = [.sh (.int t), .sh (.int v), .sh (.int (byZ t v))]) ?_ fun ρ h => ?_)
  · refine ds_if (dt_test (de_B0 (de_var rfl (de_int ⟨v, 0, rfl, rfl, _, rfl, ite2 (fun z => ?_) (fun z => ?_)⟩))))
    · have z' : v < 0 := of_decide_eq_true z
      refine ds_asg (de_un (de_var rfl ⟨_, rfl, ?_⟩))
      unfold byZ
      rw [if_pos z'] <;> rfl
    · have z' : ¬ v < 0 := fun y => z (decide_eq_true y)
      refine ds_next ?_
      unfold byZ
      rw [if_neg z'] <;> rfl
  subst h
  unfold lowZ at q
  refine ds_ret (de_ite (dt_test (de_eqI (de_var rfl (de_var rfl ⟨v, _, rfl, rfl, _, rfl, ite2 (fun z => ?_) (fun z => ?_)⟩)))))
  · rw [if_pos (of_decide_eq_true z)] at q
    exact de_II (de_var rfl (de_var rfl ⟨t, _, rfl, rfl, cd t, q⟩))
  · rw [if_neg (fun y => z (decide_eq_true y))] at q
    exact de_tup (da_cons (de_II (de_var rfl (de_var rfl ⟨t, _, rfl, rfl, cd t, da_cons (de_II (de_var rfl (de_var rfl ⟨v, _, rfl, rfl, cd v, da_nil ⟨by simp, q⟩⟩)))⟩))))
theorem ok_in_lowest (T : Tx K mg a) (hS : Sy mg base a) : FnG P w K mg base true 1 a.f_in_lowest a.d_in_lowest (["top", "bottom"] : List Str) (fun _ => spD K F_low) := by
  refine fn_data T.F_in_lowest sc_in_lowest (fun ss R X z => by obtain ⟨_, _, h, _⟩ := z; rw [h] <;> rfl) fun cdv A outer s H E pl hr => ⟨_, (pss_cons (ps_set (i := 2) sc_in_lowest.nd rfl (Or.inl rfl) (pe_ifExp (pt_cmpR op_gt (pv 1) pe_int (nomark _)) (pe_callBfun cr_gcd (by rfl) T.m_gcd (pa_cons (pv 0) (pa_cons (pv 1) pa_nil))) (pe_un un_neg (pe_callBfun cr_gcd (by rfl) T.m_gcd (pa_cons (pv 0) (pa_cons (pv 1) pa_nil))))))
      (pss_one (ps_ret (pe_ifExp (pt_cmpR (op_eqG hr.hu) (pv 1) (pv 2) (nomark _)) (pe_op op_fdivG (pv 0) (pv 2)) (pe_tup (pa_cons (pe_op op_fdivG (pv 0) (pv 2)) (pa_cons (pe_op op_fdivG (pv 1) (pv 2)) pa_nil))))))), fun b ss R X h hX => ?_⟩
  obtain ⟨t, v, rfl, hv, hv2, q⟩ := h
  obtain ⟨b0, b1⟩ := byZ_facts (t := t) hv
  have cd : ∀ i : Int, CDivA i (byZ t v) := fun i => ⟨b0, log_of_le b1 b0 hv2⟩
  have rest : ∀ d, d = D.int (byZ t v) → DS K b ([.sh (.int t), .sh (.int v), .sh d]) (tRet (tIf (tTest (tOp (rEqG K) (tVar 1) (tVar 2))) (tOp (rI CDivA fun i j => .int (i.fdiv j)) (tVar 0) (tVar 2)) (tTup (tCons (tOp (rI CDivA fun i j => .int (i.fdiv j)) (tVar 0) (tVar 2)) (tCons (tOp (rI CDivA fun i j => .int (i.fdiv j)) (tVar 1) (tVar 2)) tNil))))) (fun _ => R .non) R (fun _ => False) (fun _ => False) := fun d e => by
    subst e
    unfold lowZ at q
    refine ds_ret (de_ite (dt_test (de_eqI (de_var rfl (de_var rfl ⟨v, _, rfl, rfl, _, rfl, ite2 (fun z => ?_) (fun z => ?_)⟩)))))
    · rw [if_pos (of_decide_eq_true z)] at q
      exact de_II (de_var rfl (de_var rfl ⟨t, _, rfl, rfl, cd t, q⟩))
    · rw [if_neg (fun y => z (decide_eq_true y))] at q
      exact de_tup (da_cons (de_II (de_var rfl (de_var rfl ⟨t, _, rfl, rfl, cd t, da_cons (de_II (de_var rfl (de_var rfl ⟨v, _, rfl, rfl, cd v, da_nil ⟨by simp, q⟩⟩)))⟩))))
  refine ds_seq (ds_asg (de_ite (dt_test (de_B0 (de_var rfl (de_int ⟨v, 0, rfl, rfl, _, rfl, ite2 (fun z => ?_) (fun z => ?_)⟩))))))
  · have z' : ¬ v < 0 := by have : v > 0 := of_decide_eq_true z; omega
    refine de_gcd (de_var rfl (de_var rfl ⟨t, v, rfl, rfl, rest _ ?_⟩))
    unfold byZ
    rw [if_neg z']
  · have z' : v < 0 := by have : ¬ v > 0 := fun y => z (decide_eq_true y); omega
    refine de_un (de_gcd (de_var rfl (de_var rfl ⟨t, v, rfl, rfl, _, rfl, rest _ ?_⟩)))
    unfold byZ
    rw [if_pos z']
def F_pair : DF := fun ss R _ => ∃ x t b, ss = [.sh x] ∧ RtV x t b ∧ R (.tup [.int t, .int b])
theorem ok_pair (T : Tx K mg a) (hS : Sy mg base a) : FnG P w K mg base true 1 a.f_pair a.d_pair (["number"] : List Str) (fun _ => spD K F_pair) := by
  refine fn_data T.F_pair sc_pair (fun ss R X z => by obtain ⟨_, _, _, h, _⟩ := z; rw [h] <;> rfl) fun cdv A outer s H E pl hr => ⟨_, (pss_one (ps_ret (pe_ifExp (pt_val (pe_callB (call_isG (pn := (fun _ _ _ => False)) (fun _ _ _ z => z.elim)) (by rfl) T.n_isinstance PyProof.Rows.boot_isinstance (pa_cons (pv 0) (pa_cons (pe_bltn (v := .ty "int") (by rfl) T.n_int PyProof.Rows.boot_int rfl) pa_nil)))) (pe_tup (pa_cons (pv 0) (pa_cons pe_int pa_nil))) (pv 0)))), fun b ss R X h hX => ?_⟩
  obtain ⟨x, t, v, rfl, hx, q⟩ := h
  cases hx with
  | int t => exact ds_ret (de_ite (dt_test (de_isT (de_var rfl ⟨_, true, rfl, by decide +kernel, true, rfl, iteT (de_tup (da_cons (de_var rfl (da_cons (de_int (da_nil ⟨by simp, q⟩))))))⟩))))
  | pair t v h1 h2 => exact ds_ret (de_ite (dt_test (de_isT (de_var rfl ⟨_, false, rfl, by decide +kernel, false, rfl, iteF (de_var rfl q)⟩))))
theorem ok__law_pair (T : Tx K mg a) (hS : Sy mg base a) : FnG P w K mg base true 1 a.f__law_pair a.d__law_pair (["number"] : List Str) (fun _ => spD K F_pair) := by
  refine fn_data T.F__law_pair sc__law_pair (fun ss R X z => by obtain ⟨_, _, _, h, _⟩ := z; rw [h] <;> rfl) fun cdv A outer s H E pl hr => ⟨_, (pss_one (ps_ret (pe_ifExp (pt_val (pe_callB (call_isG (pn := (fun _ _ _ => False)) (fun _ _ _ z => z.elim)) (by rfl) T.n_isinstance PyProof.Rows.boot_isinstance (pa_cons (pv 0) (pa_cons (pe_bltn (v := .ty "int") (by rfl) T.n_int PyProof.Rows.boot_int rfl) pa_nil)))) (pe_tup (pa_cons (pv 0) (pa_cons pe_int pa_nil))) (pv 0)))), fun b ss R X h hX => ?_⟩
  obtain ⟨x, t, v, rfl, hx, q⟩ := h
  cases hx with
  | int t => exact ds_ret (de_ite (dt_test (de_isT (de_var rfl ⟨_, true, rfl, by decide +kernel, true, rfl, iteT (de_tup (da_cons (de_var rfl (da_cons (de_int (da_nil ⟨by simp, q⟩))))))⟩))))
  | pair t v h1 h2 => exact ds_ret (de_ite (dt_test (de_isT (de_var rfl ⟨_, false, rfl, by decide +kernel, false, rfl, iteF (de_var rfl q)⟩))))
def F_opp : DF := fun ss R _ => ∃ x t b, ss = [.sh x] ∧ RtV x t b ∧ R (oppD x)
theorem ok_opposite (T : Tx K mg a) (hS : Sy mg base a) : FnG P w K mg base true 1 a.f_opposite a.d_opposite (["number"] : List Str) (fun _ => spD K F_opp) := by
  refine fn_data T.F_opposite sc_opposite (fun ss R X z => by obtain ⟨_, _, _, h, _⟩ := z; rw [h] <;> rfl) fun cdv A outer s H E pl hr => ⟨_, (pss_one (ps_ret (pe_ifExp (pt_val (pe_callB (call_isG (pn := (fun _ _ _ => False)) (fun _ _ _ z => z.elim)) (by rfl) T.n_isinstance PyProof.Rows.boot_isinstance (pa_cons (pv 0) (pa_cons (pe_bltn (v := .ty "int") (by rfl) T.n_int PyProof.Rows.boot_int rfl) pa_nil)))) (pe_un un_neg (pv 0)) (pe_tup (pa_cons (pe_un un_neg (pe_ix ix_seq (pv 0) pe_int (fun _ _ => rfl))) (pa_cons (pe_ix ix_seq (pv 0) pe_int (fun _ _ => rfl)) pa_nil)))))), fun b ss R X h hX => ?_⟩
  obtain ⟨x, t, v, rfl, hx, q⟩ := h
  cases hx with
  | int t => exact ds_ret (de_ite (dt_test (de_isT (de_var rfl ⟨_, true, rfl, by decide +kernel, true, rfl, iteT (de_un (de_var rfl ⟨_, rfl, q⟩))⟩))))
  | pair t v h1 h2 => exact ds_ret (de_ite (dt_test (de_isT (de_var rfl ⟨_, false, rfl, by decide +kernel, false, rfl, iteF (de_tup (da_cons (de_un (de_ix (de_var rfl (de_int ⟨0, .int t, rfl, rfl, t, rfl, da_cons (de_ix (de_var rfl (de_int ⟨1, .int v, rfl, rfl, da_nil ⟨by simp, q⟩⟩)))⟩))))))⟩))))
theorem ok__law_opposite (T : Tx K mg a) (hS : Sy mg base a) : FnG P w K mg base true 1 a.f__law_opposite a.d__law_opposite (["number"] : List Str) (fun _ => spD K F_opp) := by
  refine fn_data T.F__law_opposite sc__law_opposite (fun ss R X z => by obtain ⟨_, _, _, h, _⟩ := z; rw [h] <;> rfl) fun cdv A outer s H E pl hr => ⟨_, (pss_one (ps_ret (pe_ifExp (pt_val (pe_callB (call_isG (pn := (fun _ _ _ => False)) (fun _ _ _ z => z.elim)) (by rfl) T.n_isinstance PyProof.Rows.boot_isinstance (pa_cons (pv 0) (pa_cons (pe_bltn (v := .ty "int") (by rfl) T.n_int PyProof.Rows.boot_int rfl) pa_nil)))) (pe_un un_neg (pv 0)) (pe_tup (pa_cons (pe_un un_neg (pe_ix ix_seq (pv 0) pe_int (fun _ _ => rfl))) (pa_cons (pe_ix ix_seq (pv 0) pe_int (fun _ _ => rfl)) pa_nil)))))), fun b ss R X h hX => ?_⟩
  obtain ⟨x, t, v, rfl, hx, q⟩ := h
  cases hx with
  | int t => exact ds_ret (de_ite (dt_test (de_isT (de_var rfl ⟨_, true, rfl, by decide +kernel, true, rfl, iteT (de_un (de_var rfl ⟨_, rfl, q⟩))⟩))))
  | pair t v h1 h2 => exact ds_ret (de_ite (dt_test (de_isT (de_var rfl ⟨_, false, rfl, by decide +kernel, false, rfl, iteF (de_tup (da_cons (de_un (de_ix (de_var rfl (de_int ⟨0, .int t, rfl, rfl, t, rfl, da_cons (de_ix (de_var rfl (de_int ⟨1, .int v, rfl, rfl, da_nil ⟨by simp, q⟩⟩)))⟩))))))⟩))))

/-- a bound on the ends -/
def Lg (n : Nat) (x : Int) : Prop := x.natAbs < 2 ^ n
theorem Lg.log {n : Nat} {x : Int} (h : Lg n x) (hn : 0 < n) : x.natAbs.log2 < n := by
  by_cases z : x = 0
  · subst z; exact hn
  · exact (Nat.log2_lt (by omega)).mpr h
theorem Lg.mul {n m : Nat} {x y : Int} (h : Lg n x) (h' : Lg m y) : Lg (n + m) (x * y) := by
  unfold Lg at *
  rw [Int.natAbs_mul, Nat.pow_add]
  exact Nat.mul_lt_mul'' h h'
theorem Lg.add {n : Nat} {x y : Int} (h : Lg n x) (h' : Lg n y) : Lg (n + 1) (x + y) := by
  unfold Lg at *
  have e : (2 : Nat) ^ (n + 1) = 2 ^ n * 2 := Nat.pow_succ ..
  have := Int.natAbs_add_le x y
  omega
theorem Lg.mono {n m : Nat} {x : Int} (h : Lg n x) (a : n ≤ m) : Lg m x := Nat.lt_of_lt_of_le h (Nat.pow_le_pow_right (by decide) a)
theorem Lg.ok {n m : Nat} {x y : Int} (h : Lg n x) (h' : Lg m y) (hn : 0 < n) (hm : 0 < m) (b : n + m ≤ 1000000) : IntMulOk x y := mul_wide (by have a := h.log hn; have c := h'.log hm; show _ < 1000000; omega)
/-- two ratios, their ends of at most 1000 bits -/
structure Two (x y : D) (t b h l : Int) : Prop where
  x : RtV x t b
  y : RtV y h l
  t : Lg 1000 t
  b : Lg 1000 b
  h : Lg 1000 h
  l : Lg 1000 l
def F2 (G : D → D → Int → Int → Int → Int → (D → Prop) → Prop) : DF := fun ss R _ => ∃ x y t b h l, ss = [.sh x, .sh y] ∧ Two x y t b h l ∧ G x y t b h l R
def F_add : DF := F2 fun x y t b h l R => R (lowZ (t * l + h * b) (b * l))
def F_mul : DF := F2 fun x y t b h l R => R (lowZ (t * h) (b * l))
def F_ovr : DF := F2 fun x y t b h l R => h ≠ 0 ∧ R (lowZ (t * l) (b * h))
def F_les : DF := F2 fun x y t b h l R => R (.bl (decide (t * l < h * b)))
theorem Two.bl {x y : D} {t b h l : Int} (z : Two x y t b h l) : b * l ≠ 0 ∧ (b * l).natAbs.log2 < 9000 := by
  have p1 := z.x.pos
  have p2 := z.y.pos
  exact ⟨Int.mul_ne_zero (by omega) (by omega), Nat.lt_of_lt_of_le ((z.b.mul z.l).log (by decide)) (by decide)⟩
theorem Two.bh {x y : D} {t b h l : Int} (z : Two x y t b h l) (h0 : h ≠ 0) : b * h ≠ 0 ∧ (b * h).natAbs.log2 < 9000 := by
  have p1 := z.x.pos
  exact ⟨Int.mul_ne_zero (by omega) h0, Nat.lt_of_lt_of_le ((z.b.mul z.h).log (by decide)) (by decide)⟩
theorem Two.m (x y : Int) (h : Lg 1000 x) (h' : Lg 1000 y) : IntMulOk x y := h.ok h' (by decide) (by decide) (by decide)
theorem Two.m2 (x y : Int) (h : Lg 2000 x) (h' : Lg 1000 y) : IntMulOk x y := h.ok h' (by decide) (by decide) (by decide)
theorem ok_divided (T : Tx K mg a) (hS : Sy mg base a) : FnG P w K mg base true 2 a.f_divided a.d_divided (["one", "other"] : List Str) (fun _ => spD K F_ovr) := by
  refine fn_data T.F_divided sc_divided (fun ss R X z => by obtain ⟨_, _, _, _, _, _, h, _⟩ := z; rw [h] <;> rfl) fun cdv A outer s H E pl hr => ⟨_, (pss_cons (ps_asg (pe_tup (pa_cons (pe_go (ok_pair T hS) (hr.mono (by decide)) (pl := []) (fun _ h => nomatch h) (by rfl) T.g_pair T.F_pair.kp T.b_pair lets0 (pa_cons (pv 0) pa_nil)) (pa_cons (pe_go (ok_pair T hS) (hr.mono (by decide)) (pl := []) (fun _ h => nomatch h) (by rfl) T.g_pair T.F_pair.kp T.b_pair lets0 (pa_cons (pv 1) pa_nil)) pa_nil))) (pg_tup (n := 2) rfl (pgs_cons (pg_tup (n := 2) rfl (pgs_cons (pg_name (i := 2) sc_divided.nd rfl (Or.inl rfl)) (pgs_cons (pg_name (i := 3) sc_divided.nd rfl (Or.inl rfl)) pgs_nil))) (pgs_cons (pg_tup (n := 2) rfl (pgs_cons (pg_name (i := 4) sc_divided.nd rfl (Or.inl rfl)) (pgs_cons (pg_name (i := 5) sc_divided.nd rfl (Or.inl rfl)) pgs_nil))) pgs_nil))))
      (pss_one (ps_ret (pe_go (ok_in_lowest T hS) (hr.mono (by decide)) (pl := []) (fun _ h => nomatch h) (by rfl) T.g_in_lowest T.F_in_lowest.kp T.b_in_lowest lets0 (pa_cons (pe_op op_mulG (pv 2) (pv 5)) (pa_cons (pe_op op_mulG (pv 3) (pv 4)) pa_nil)))))), fun b ss R X h hX => ?_⟩
  obtain ⟨x, y, t, v, u, l, rfl, two, q⟩ := h
  refine ds_seq (ds_asgG (de_tup (da_cons (de_call EL.no (dc_cons (de_var rfl (dc_nil ⟨x, t, v, rfl, two.x, da_cons (de_call EL.no (dc_cons (de_var rfl (dc_nil ⟨y, u, l, rfl, two.y, da_nil ⟨by simp, ?_⟩⟩))))⟩)))))))
  refine dg_tup rfl rfl (dgs_cons (dg_tup rfl rfl (dgs_cons (dg_name (dgs_cons (dg_name (dgs_nil (dgs_cons (dg_tup rfl rfl (dgs_cons (dg_name (dgs_cons (dg_name (dgs_nil (dgs_nil ?_)))))))))))))))
  exact ds_ret (de_call EL.no (dc_cons (de_II (de_var rfl (de_var rfl ⟨t, l, rfl, rfl, Two.m _ _ two.t two.l, dc_cons (de_II (de_var rfl (de_var rfl ⟨v, u, rfl, rfl, Two.m _ _ two.b two.h, dc_nil ⟨_, _, rfl, (two.bh q.1).1, (two.bh q.1).2, q.2⟩⟩)))⟩)))))
theorem ok_added (T : Tx K mg a) (hS : Sy mg base a) : FnG P w K mg base true 2 a.f_added a.d_added (["one", "other"] : List Str) (fun _ => spD K F_add) := by
  refine fn_data T.F_added sc_added (fun ss R X z => by obtain ⟨_, _, _, _, _, _, h, _⟩ := z; rw [h] <;> rfl) fun cdv A outer s H E pl hr => ⟨_, (pss_cons (ps_if (PW.pt (pw_and (pt_val (pe_callB (call_isG (pn := (fun _ _ _ => False)) (fun _ _ _ z => z.elim)) (by rfl) T.n_isinstance PyProof.Rows.boot_isinstance (pa_cons (pv 0) (pa_cons (pe_bltn (v := .ty "int") (by rfl) T.n_int PyProof.Rows.boot_int rfl) pa_nil)))) (pw_and1 (pt_val (pe_callB (call_isG (pn := (fun _ _ _ => False)) (fun _ _ _ z => z.elim)) (by rfl) T.n_isinstance PyProof.Rows.boot_isinstance (pa_cons (pv 1) (pa_cons (pe_bltn (v := .ty "int") (by rfl) T.n_int PyProof.Rows.boot_int rfl) pa_nil))))))) (pss_one (ps_ret (pe_op op_addG (pv 0) (pv 1)))) pss_nil)
      (pss_cons (ps_asg (pe_tup (pa_cons (pe_go (ok_pair T hS) (hr.mono (by decide)) (pl := []) (fun _ h => nomatch h) (by rfl) T.g_pair T.F_pair.kp T.b_pair lets0 (pa_cons (pv 0) pa_nil)) (pa_cons (pe_go (ok_pair T hS) (hr.mono (by decide)) (pl := []) (fun _ h => nomatch h) (by rfl) T.g_pair T.F_pair.kp T.b_pair lets0 (pa_cons (pv 1) pa_nil)) pa_nil))) (pg_tup (n := 2) rfl (pgs_cons (pg_tup (n := 2) rfl (pgs_cons (pg_name (i := 2) sc_added.nd rfl (Or.inl rfl)) (pgs_cons (pg_name (i := 3) sc_added.nd rfl (Or.inl rfl)) pgs_nil))) (pgs_cons (pg_tup (n := 2) rfl (pgs_cons (pg_name (i := 4) sc_added.nd rfl (Or.inl rfl)) (pgs_cons (pg_name (i := 5) sc_added.nd rfl (Or.inl rfl)) pgs_nil))) pgs_nil))))
      (pss_one (ps_ret (pe_go (ok_in_lowest T hS) (hr.mono (by decide)) (pl := []) (fun _ h => nomatch h) (by rfl) T.g_in_lowest T.F_in_lowest.kp T.b_in_lowest lets0 (pa_cons (pe_op op_addG (pe_op op_mulG (pv 2) (pv 5)) (pe_op op_mulG (pv 4) (pv 3))) (pa_cons (pe_op op_mulG (pv 3) (pv 5)) pa_nil))))))), fun b ss R X h hX => ?_⟩
  obtain ⟨x, y, t, v, u, l, rfl, two, q⟩ := h
  have both : (∃ i j, x = .int i ∧ y = .int j) ∨ ¬ (∃ i j, x = .int i ∧ y = .int j) := Classical.em _
  rcases both with ⟨i, j, rfl, rfl⟩ | nb
  · cases two.x
    cases two.y
    refine ds_seq (ds_if (dt_and (dt_test (de_isT (de_var rfl ⟨_, true, rfl, by decide +kernel, true, rfl, iteT (dt_test (de_isT (de_var rfl ⟨_, true, rfl, by decide +kernel, true, rfl, iteT ?_⟩)))⟩)))))
    have q : R (lowZ (t * 1 + u * 1) (1 * 1)) := q
    rw [Int.one_mul, lowZ_one, Int.mul_one, Int.mul_one] at q
    exact ds_ret (de_addI (de_var rfl (de_var rfl ⟨_, _, rfl, rfl, q⟩)))
  have tst : ∀ {nx bk ct : List Sl → Prop} {rt : D → Prop} {ta : TS} {ρ : List Sl} {pn : PinP}, ρ[0]? = some (.sh x) → ρ[1]? = some (.sh y) → nx ρ → DS K b ρ (tIfS (tAnd (tB (tCB (rIsG K pn) (tCons (tVar 0) (tCons (tC (.ty "int")) tNil)))) (tB (tCB (rIsG K pn) (tCons (tVar 1) (tCons (tC (.ty "int")) tNil))))) ta tNext) nx rt bk ct := fun g0 g1 n => by
    rcases two.x with i | ⟨i, i', _, _⟩
    · rcases two.y with j | ⟨j, j', _, _⟩
      · exact (nb ⟨_, _, rfl, rfl⟩).elim
      · exact ds_if (dt_and (dt_test (de_isT (de_var g0 ⟨_, true, rfl, by decide +kernel, true, rfl, iteT (dt_test (de_isT (de_var g1 ⟨_, false, rfl, by decide +kernel, false, rfl, iteF (ds_next n)⟩)))⟩))))
    · exact ds_if (dt_and (dt_test (de_isT (de_var g0 ⟨_, false, rfl, by decide +kernel, false, rfl, iteF (iteF (ds_next n))⟩))))
  refine ds_seq (tst rfl rfl ?_)
  refine ds_seq (ds_asgG (de_tup (da_cons (de_call EL.no (dc_cons (de_var rfl (dc_nil ⟨x, t, v, rfl, two.x, da_cons (de_call EL.no (dc_cons (de_var rfl (dc_nil ⟨y, u, l, rfl, two.y, da_nil ⟨by simp, ?_⟩⟩))))⟩)))))))
  refine dg_tup rfl rfl (dgs_cons (dg_tup rfl rfl (dgs_cons (dg_name (dgs_cons (dg_name (dgs_nil (dgs_cons (dg_tup rfl rfl (dgs_cons (dg_name (dgs_cons (dg_name (dgs_nil (dgs_nil ?_)))))))))))))))
  refine ds_ret (de_call EL.no (dc_cons (de_addI (de_II (de_var rfl (de_var rfl ⟨t, l, rfl, rfl, Two.m _ _ two.t two.l, de_II (de_var rfl (de_var rfl ⟨u, v, rfl, rfl, Two.m _ _ two.h two.b, _, _, rfl, rfl, ?_⟩))⟩))))))
  exact dc_cons (de_II (de_var rfl (de_var rfl ⟨v, l, rfl, rfl, Two.m _ _ two.b two.l, dc_nil ⟨_, _, rfl, two.bl.1, two.bl.2, q⟩⟩)))

def sgn (t : Int) : Int := if t > 0 then 1 else if t < 0 then -1 else 0
theorem ok__law_plus (T : Tx K mg a) (hS : Sy mg base a) : FnG P w K mg base true 3 a.f__law_plus a.d__law_plus (["one", "other"] : List Str) (fun _ => spD K F_add) := by
  refine fn_data T.F__law_plus sc__law_plus (fun ss R X z => by obtain ⟨_, _, _, _, _, _, h, _⟩ := z; rw [h] <;> rfl) fun cdv A outer s H E pl hr => ⟨_, (pss_cons (ps_par (i := 2) (j := 3) rfl sc__law_plus.nd rfl rfl (by decide) rfl rfl (pa_cons (pe_go (ok__law_pair T hS) (hr.mono (by decide)) (pl := []) (fun _ h => nomatch h) (by rfl) T.g__law_pair T.F__law_pair.kp T.b__law_pair lets0 (pa_cons (pv 0) pa_nil)) (pa_cons (pe_go (ok__law_pair T hS) (hr.mono (by decide)) (pl := []) (fun _ h => nomatch h) (by rfl) T.g__law_pair T.F__law_pair.kp T.b__law_pair lets0 (pa_cons (pv 1) pa_nil)) pa_nil)) rfl)
      (pss_one (ps_ret (pe_go (ok__law_low T hS) (hr.mono (by decide)) (pl := []) (fun _ h => nomatch h) (by rfl) T.g__law_low T.F__law_low.kp T.b__law_low lets0 (pa_cons (pe_op op_addG (pe_op op_mulG (pe_ix ix_seq (pv 2) pe_int (fun _ _ => rfl)) (pe_ix ix_seq (pv 3) pe_int (fun _ _ => rfl))) (pe_op op_mulG (pe_ix ix_seq (pv 3) pe_int (fun _ _ => rfl)) (pe_ix ix_seq (pv 2) pe_int (fun _ _ => rfl)))) (pa_cons (pe_op op_mulG (pe_ix ix_seq (pv 2) pe_int (fun _ _ => rfl)) (pe_ix ix_seq (pv 3) pe_int (fun _ _ => rfl))) pa_nil)))))), fun b ss R X h hX => ?_⟩
  obtain ⟨x, y, t, v, u, l, rfl, two, q⟩ := h
  refine ds_seq (ds_par (da_cons (de_call EL.no (dc_cons (de_var rfl (dc_nil ⟨x, t, v, rfl, two.x, da_cons (de_call EL.no (dc_cons (de_var rfl (dc_nil ⟨y, u, l, rfl, two.y, da_nil ⟨_, _, rfl, ?_⟩⟩))))⟩))))))
  exact ds_ret (de_call EL.no (dc_cons (de_addI (de_II (de_ix (de_var rfl (de_int ⟨0, .int t, rfl, rfl, de_ix (de_var rfl (de_int ⟨1, .int l, rfl, rfl, t, l, rfl, rfl, Two.m _ _ two.t two.l, de_II (de_ix (de_var rfl (de_int ⟨0, .int u, rfl, rfl, de_ix (de_var rfl (de_int ⟨1, .int v, rfl, rfl, u, v, rfl, rfl, Two.m _ _ two.h two.b, _, _, rfl, rfl, dc_cons (de_II (de_ix (de_var rfl (de_int ⟨1, .int v, rfl, rfl, de_ix (de_var rfl (de_int ⟨1, .int l, rfl, rfl, v, l, rfl, rfl, Two.m _ _ two.b two.l, dc_nil ⟨_, _, rfl, two.bl.1, two.bl.2, q⟩⟩))⟩))))⟩))⟩)))⟩))⟩)))))))
theorem Lg.neg {n : Nat} {x : Int} (h : Lg n x) : Lg n (-x) := by
  unfold Lg at *
  rw [Int.natAbs_neg]
  exact h
theorem Two.opp {x y : D} {t b h l : Int} (z : Two x y t b h l) : Two x (oppD y) t b (-h) l := ⟨z.x, z.y.opp, z.t, z.b, z.h.neg, z.l⟩
def F_sub : DF := F2 fun x y t b h l R => R (lowZ (t * l + -h * b) (b * l))
theorem ok__law_minus (T : Tx K mg a) (hS : Sy mg base a) : FnG P w K mg base true 4 a.f__law_minus a.d__law_minus (["one", "other"] : List Str) (fun _ => spD K F_sub) := by
  refine fn_data T.F__law_minus sc__law_minus (fun ss R X z => by obtain ⟨_, _, _, _, _, _, h, _⟩ := z; rw [h] <;> rfl) fun cdv A outer s H E pl hr => ⟨_, (pss_one (ps_ret (pe_go (ok__law_plus T hS) (hr.mono (by decide)) (pl := []) (fun _ h => nomatch h) (by rfl) T.g__law_plus T.F__law_plus.kp T.b__law_plus lets0 (pa_cons (pv 0) (pa_cons (pe_go (ok__law_opposite T hS) (hr.mono (by decide)) (pl := []) (fun _ h => nomatch h) (by rfl) T.g__law_opposite T.F__law_opposite.kp T.b__law_opposite lets0 (pa_cons (pv 1) pa_nil)) pa_nil))))), fun b ss R X h hX => ?_⟩
  obtain ⟨x, y, t, v, u, l, rfl, two, q⟩ := h
  exact ds_ret (de_call EL.no (dc_cons (de_var rfl (dc_cons (de_call EL.no (dc_cons (de_var rfl (dc_nil ⟨y, u, l, rfl, two.y, dc_nil ⟨x, _, t, v, -u, l, rfl, two.opp, q⟩⟩))))))))
end
end Law

set_option Elab.async false
set_option linter.all false
set_option maxRecDepth 100000
set_option maxHeartbeats 4000000
namespace Law
open PySem PySem.Spec PyProof.Rows L2 G
/-- prime -/
def Pm (p : Nat) : Prop := 2 ≤ p ∧ ∀ d, 2 ≤ d → d < p → ¬ d ∣ p
theorem Pm.cop {p a : Nat} (h : Pm p) (n : ¬ p ∣ a) : Nat.Coprime p a := by
  have g1 : Nat.gcd p a ∣ p := Nat.gcd_dvd_left _ _
  have g2 : Nat.gcd p a ∣ a := Nat.gcd_dvd_right _ _
  have hp := h.1
  have g0 : 0 < Nat.gcd p a := Nat.gcd_pos_of_pos_left _ (by omega)
  have gl : Nat.gcd p a ≤ p := Nat.le_of_dvd (by omega) g1
  apply Classical.byContradiction
  intro z
  have z' : Nat.gcd p a ≠ 1 := z
  by_cases e : Nat.gcd p a = p
  · rw [e] at g2
    exact n g2
  · exact h.2 _ (by omega) (by omega) g1
theorem Pm.eu {p a b : Nat} (h : Pm p) (d : p ∣ a * b) : p ∣ a ∨ p ∣ b := by
  by_cases n : p ∣ a
  · exact Or.inl n
  · exact Or.inr ((h.cop n).dvd_of_dvd_mul_left d)
theorem Pm.eq {p q : Nat} (h : Pm p) (h' : Pm q) (d : p ∣ q) : p = q := by
  have := Nat.le_of_dvd (by have := h'.1; omega) d
  apply Classical.byContradiction
  intro z
  exact h'.2 p h.1 (by omega) d
/-- the primes of a number, each with its power -/
inductive Fs : Nat → List Nat → Prop
  | nil : Fs 1 []
  | cons {p e m : Nat} {ps : List Nat} (hp : Pm p) (n : ¬ p ∣ m) (m0 : 0 < m) (e0 : 0 < e) (t : Fs m ps) : Fs (p ^ e * m) (p :: ps)
theorem Fs.pos {n : Nat} {ps : List Nat} (h : Fs n ps) : 0 < n := by
  cases h with
  | nil => decide
  | cons hp n m0 e0 t => exact Nat.mul_pos (Nat.pow_pos (by have := hp.1; omega)) m0
theorem Fs.le {n : Nat} {ps : List Nat} (h : Fs n ps) : ∀ p ∈ ps, Pm p ∧ p ∣ n := by
  induction h with
  | nil => intro p h; cases h
  | @cons p e m ps hp n m0 e0 t ih =>
    intro q hq
    rcases List.mem_cons.mp hq with rfl | hq
    · obtain ⟨e, rfl⟩ : ∃ i, e = i + 1 := ⟨e - 1, by omega⟩
      exact ⟨hp, Nat.dvd_mul_right_of_dvd ⟨q ^ e, by rw [Nat.pow_succ, Nat.mul_comm]⟩ _⟩
    · exact ⟨(ih q hq).1, Nat.dvd_mul_left_of_dvd (ih q hq).2 _⟩
theorem Fs.one {p : Nat} (h : Pm p) : Fs p [p] := by
  have := Fs.cons (e := 1) h (m := 1) (fun z => by have := Nat.le_of_dvd (by decide) z; have := h.1; omega) (by decide) (by decide) .nil
  rwa [Nat.pow_one, Nat.mul_one] at this
/-- no divisor below d -/
def Nod (d n : Nat) : Prop := ∀ q, 2 ≤ q → q < d → ¬ q ∣ n
theorem Nod.pm {d n : Nat} (h : Nod d n) (d2 : 2 ≤ d) (hd : d ∣ n) : Pm d := ⟨d2, fun q h1 h2 h3 => h q h1 h2 (Nat.dvd_trans h3 hd)⟩
theorem Nod.end {d n : Nat} (h : Nod d n) (n2 : 2 ≤ n) (hd : n < d * d) : Pm n := by
  refine ⟨n2, fun q h1 h2 h3 => ?_⟩
  obtain ⟨r, rfl⟩ := h3
  have q1 : ¬ q < d := fun z => h q h1 z ⟨r, rfl⟩
  have r0 : 2 ≤ r := by
    match r, n2, h2 with
    | 0, a, b => omega
    | 1, a, b => omega
    | r + 2, a, b => omega
  have r1 : ¬ r < d := fun z => h r r0 z ⟨q, Nat.mul_comm _ _⟩
  have := Nat.mul_le_mul (show d ≤ q by omega) (show d ≤ r by omega)
  omega
theorem Nod.next {d n m : Nat} (h : Nod d n) (hm : m ∣ n) (hd : ¬ d ∣ m) : Nod (d + 1) m := fun q h1 h2 h3 => by
  by_cases e : q = d
  · subst e; exact hd h3
  · exact h q h1 (by omega) (Nat.dvd_trans h3 hm)
theorem Nod.two (n : Nat) : Nod 2 n := fun q h1 h2 => by omega
/-- what is left when squares are taken away -/
def SqF (n s : Nat) : Prop := 0 < s ∧ (∃ k, n = s * (k * k)) ∧ ∀ m, 2 ≤ m → ¬ m * m ∣ s
theorem SqF.uniq {n s t : Nat} (hn : 0 < n) (h : SqF n s) (h' : SqF n t) : s = t := by
  obtain ⟨s0, ⟨k, hk⟩, hs⟩ := h
  obtain ⟨t0, ⟨l, hl⟩, ht⟩ := h'
  have k0 : 0 < k := by
    rcases Nat.eq_zero_or_pos k with z | z
    · subst z; simp at hk; omega
    · exact z
  have l0 : 0 < l := by
    rcases Nat.eq_zero_or_pos l with z | z
    · subst z; simp at hl; omega
    · exact z
  obtain ⟨k', l', hc, ek, el⟩ := Nat.exists_coprime k l
  have g0 : 0 < Nat.gcd k l := Nat.gcd_pos_of_pos_left _ k0
  generalize Nat.gcd k l = g at ek el g0
  subst ek el
  have e : s * (k' * k') = t * (l' * l') := by
    have a : g * g * (s * (k' * k')) = g * g * (t * (l' * l')) := by
      have e1 : g * g * (s * (k' * k')) = s * (k' * g * (k' * g)) := by grind
      have e2 : g * g * (t * (l' * l')) = t * (l' * g * (l' * g)) := by grind
      rw [e1, e2, ← hk, ← hl]
    exact Nat.eq_of_mul_eq_mul_left (Nat.mul_pos g0 g0) a
  have cc : Nat.Coprime (k' * k') (l' * l') := (hc.mul_left hc).mul_right (hc.mul_left hc)
  have d1 : k' * k' ∣ t := cc.dvd_of_dvd_mul_right (e ▸ Nat.dvd_mul_left _ _)
  have d2 : l' * l' ∣ s := cc.symm.dvd_of_dvd_mul_right (e ▸ Nat.dvd_mul_left _ _)
  have k1 : k' = 1 := by
    have : ¬ 2 ≤ k' := fun z => ht k' z d1
    have : k' ≠ 0 := fun z => by subst z; simp at k0
    omega
  have l1 : l' = 1 := by
    have : ¬ 2 ≤ l' := fun z => hs l' z d2
    have : l' ≠ 0 := fun z => by subst z; simp at l0
    omega
  subst k1 l1
  simpa using e
theorem SqF.up {n s : Nat} (h : SqF n s) (q : Nat) : SqF (n * (q * q)) s := by
  obtain ⟨s0, ⟨k, hk⟩, hs⟩ := h
  exact ⟨s0, ⟨k * q, by subst hk; grind⟩, hs⟩
/-- the state of the way to it by primes -/
structure Sqs (n cur found : Nat) : Prop where
  f0 : 0 < found
  c0 : 0 < cur
  k : ∃ k, n = found * cur * (k * k)
  sq : ∀ m, 2 ≤ m → ¬ m * m ∣ found
  co : Nat.Coprime found cur
theorem Sqs.start {n : Nat} (h : 0 < n) : Sqs n n 1 := ⟨by decide, h, ⟨1, by simp⟩, fun m h1 h2 => by
  have a := Nat.le_of_dvd (by decide) h2
  have := Nat.mul_le_mul h1 h1
  omega, Nat.coprime_one_left _⟩
theorem Sqs.end {n f : Nat} (h : Sqs n 1 f) : SqF n f := ⟨h.f0, by obtain ⟨k, hk⟩ := h.k; exact ⟨k, by rw [hk, Nat.mul_one]⟩, h.sq⟩
theorem Sqs.even {n p e m f : Nat} (h : Sqs n (p ^ (2 * e) * m) f) (m0 : 0 < m) : Sqs n m f := by
  refine ⟨h.f0, m0, ?_, h.sq, h.co.coprime_mul_left_right⟩
  obtain ⟨k, hk⟩ := h.k
  refine ⟨p ^ e * k, ?_⟩
  rw [hk, show 2 * e = e + e by omega, Nat.pow_add]
  grind
theorem Sqs.odd {n p e m f : Nat} (h : Sqs n (p ^ (2 * e + 1) * m) f) (hp : Pm p) (hn : ¬ p ∣ m) (m0 : 0 < m) : Sqs n m (f * p) := by
  have p0 : 0 < p := by have := hp.1; omega
  have cp : Nat.Coprime f p := by
    have := h.co
    rw [Nat.pow_succ, Nat.mul_assoc, Nat.mul_comm p m, ← Nat.mul_assoc] at this
    exact this.coprime_mul_left_right
  have cm : Nat.Coprime f m := h.co.coprime_mul_left_right
  refine ⟨Nat.mul_pos h.f0 p0, m0, ?_, fun q hq hd => ?_, cm.mul_left (hp.cop hn)⟩
  · obtain ⟨k, hk⟩ := h.k
    refine ⟨p ^ e * k, ?_⟩
    rw [hk, show 2 * e + 1 = e + e + 1 by omega, Nat.pow_add, Nat.pow_add, Nat.pow_one]
    grind
  · by_cases d : p ∣ q
    · obtain ⟨r, rfl⟩ := d
      have : p * p ∣ f * p := Nat.dvd_trans ⟨r * r, by grind⟩ hd
      have : p ∣ f := Nat.dvd_of_mul_dvd_mul_right p0 this
      have : p ∣ Nat.gcd f p := Nat.dvd_gcd this (Nat.dvd_refl _)
      rw [cp] at this
      have := Nat.le_of_dvd (by decide) this
      have := hp.1
      omega
    · have c1 : Nat.Coprime (q * q) p := ((hp.cop d).symm).mul_left (hp.cop d).symm
      exact h.sq q hq (c1.dvd_of_dvd_mul_right hd)
/-- the least divisor from d on -/
def mfG (n : Nat) : Nat → Nat → Nat
  | 0, d => d
  | k + 1, d => if n % d = 0 then d else mfG n k (d + 1)
theorem mfG_spec {n e : Nat} (he : e ∣ n) : ∀ (k d : Nat), d ≤ e → e ≤ d + k → mfG n k d ∣ n ∧ d ≤ mfG n k d ∧ mfG n k d ≤ e ∧ ∀ q, d ≤ q → q < mfG n k d → ¬ q ∣ n
  | 0, d, h1, h2 => by
    have : d = e := by omega
    subst this
    exact ⟨he, Nat.le_refl _, Nat.le_refl _, fun q a b => by unfold mfG at b; omega⟩
  | k + 1, d, h1, h2 => by
    unfold mfG
    by_cases z : n % d = 0
    · rw [if_pos z]
      exact ⟨Nat.dvd_of_mod_eq_zero z, Nat.le_refl _, h1, fun q a b => by omega⟩
    · rw [if_neg z]
      have nd : ¬ d ∣ n := fun y => z (Nat.mod_eq_zero_of_dvd y)
      have de : d ≠ e := fun y => by subst y; exact nd he
      obtain ⟨a1, a2, a3, a4⟩ := mfG_spec he k (d + 1) (by omega) (by omega)
      exact ⟨a1, by omega, a3, fun q b1 b2 => by
        by_cases y : q = d
        · subst y; exact nd
        · exact a4 q (by omega) b2⟩
def mf (n : Nat) : Nat := mfG n n 2
theorem mf_spec {n : Nat} (h : 2 ≤ n) : Pm (mf n) ∧ mf n ∣ n ∧ ∀ q, 2 ≤ q → q < mf n → ¬ q ∣ n := by
  obtain ⟨a1, a2, a3, a4⟩ := mfG_spec (Nat.dvd_refl n) n 2 h (by omega)
  exact ⟨⟨a2, fun d h1 h2 h3 => a4 d h1 h2 (Nat.dvd_trans h3 a1)⟩, a1, a4⟩
theorem mf_uniq {n p : Nat} (h : 2 ≤ n) (p2 : 2 ≤ p) (hd : p ∣ n) (hn : ∀ q, 2 ≤ q → q < p → ¬ q ∣ n) : mf n = p := by
  obtain ⟨a1, a2, a3⟩ := mf_spec h
  apply Classical.byContradiction
  intro z
  rcases Nat.lt_or_gt_of_ne z with y | y
  · exact hn _ a1.1 y a2
  · exact a3 _ p2 y hd
theorem mf_lt {n : Nat} (h : 2 ≤ n) : n / mf n < n := Nat.div_lt_self (by omega) (mf_spec h).1.1
theorem mf_div {n : Nat} (h : 2 ≤ n) : 0 < n / mf n := Nat.div_pos (Nat.le_of_dvd (by omega) (mf_spec h).2.1) (by have := (mf_spec h).1.1; omega)
/-- put together by the primes -/
def mk (f : Nat → Int) (n : Nat) : Int := if h : 2 ≤ n then f (mf n) * mk f (n / mf n) else 1
termination_by n
decreasing_by exact mf_lt h
theorem mk_one (f : Nat → Int) : mk f 1 = 1 := by
  rw [mk, dif_neg (by decide)]
theorem mk_lt (f : Nat → Int) {n : Nat} (h : ¬ 2 ≤ n) : mk f n = 1 := by
  rw [mk, dif_neg h]
theorem mk_step (f : Nat → Int) {n : Nat} (h : 2 ≤ n) : mk f n = f (mf n) * mk f (n / mf n) := by
  rw [mk, dif_pos h]
theorem mk_pm (f : Nat → Int) {p : Nat} (hp : Pm p) : ∀ (k m : Nat), m ≤ k → 0 < m → mk f (p * m) = f p * mk f m
  | 0, m, h1, h2 => by omega
  | k + 1, m, h1, h2 => by
    have p2 := hp.1
    have n2 : 2 ≤ p * m := Nat.le_trans p2 (Nat.le_mul_of_pos_right _ h2)
    obtain ⟨a1, a2, a3⟩ := mf_spec n2
    rw [mk_step f n2]
    by_cases e : mf (p * m) = p
    · rw [e, Nat.mul_div_cancel_left _ (by omega)]
    · have dm : mf (p * m) ∣ m := by
        rcases a1.eu a2 with z | z
        · exact (e (a1.eq hp z)).elim
        · exact z
      generalize mf (p * m) = q at a1 a2 a3 e dm
      obtain ⟨r, rfl⟩ := dm
      have q2 := a1.1
      have r0 : 0 < r := by
        rcases Nat.eq_zero_or_pos r with z | z
        · subst z; simp at h2
        · exact z
      have rl : r < q * r := by
        have := Nat.mul_le_mul_right r q2
        omega
      rw [show p * (q * r) = q * (p * r) by grind, Nat.mul_div_cancel_left _ (by omega), mk_pm f hp k r (by omega) r0, mk_pm f a1 k r (by omega) r0]
      grind
theorem mk_mul (f : Nat → Int) : ∀ (k a b : Nat), a ≤ k → 0 < a → 0 < b → mk f (a * b) = mk f a * mk f b
  | 0, a, b, h, h1, h2 => by omega
  | k + 1, a, b, h, h1, h2 => by
    by_cases z : 2 ≤ a
    · obtain ⟨a1, a2, a3⟩ := mf_spec z
      have l := mf_lt z
      have d := mf_div z
      have e : mf a * (a / mf a) = a := Nat.mul_div_cancel' a2
      rw [mk_step f z]
      generalize a / mf a = c at l d e
      rw [← e, Nat.mul_assoc, mk_pm f a1 _ (c * b) (Nat.le_refl _) (Nat.mul_pos d h2), mk_mul f k c b (by omega) d h2]
      have : mf (mf a * c) = mf a := by rw [e]
      rw [this]
      grind
    · have : a = 1 := by omega
      subst this
      rw [mk_one, Nat.one_mul]
      grind
theorem mk_p (f : Nat → Int) {p m : Nat} (hp : Pm p) (h : 0 < m) : mk f (p * m) = f p * mk f m := mk_pm f hp m m (Nat.le_refl _) h
theorem mk_pow (f : Nat → Int) {p m : Nat} (hp : Pm p) (h : 0 < m) : ∀ e, mk f (p ^ e * m) = f p ^ e * mk f m
  | 0 => by simp
  | e + 1 => by
    rw [Nat.pow_succ, Nat.mul_comm (p ^ e) p, Nat.mul_assoc, mk_p f hp (Nat.mul_pos (Nat.pow_pos (by have := hp.1; omega)) h), mk_pow f hp h e, Int.pow_succ]
    grind
/-- two that are one at the primes of the number -/
theorem mk_ext (f g : Nat → Int) : ∀ (k n : Nat), n ≤ k → (∀ p, Pm p → p ∣ n → f p = g p) → mk f n = mk g n
  | 0, n, h, e => by
    have : n = 0 := by omega
    subst this
    rw [mk_lt f (by decide), mk_lt g (by decide)]
  | k + 1, n, h, e => by
    by_cases z : 2 ≤ n
    · obtain ⟨a1, a2, a3⟩ := mf_spec z
      have l := mf_lt z
      rw [mk_step f z, mk_step g z, e _ a1 a2, mk_ext f g k _ (by omega) fun p hp hd => e p hp (Nat.dvd_trans hd (Nat.div_dvd_of_dvd a2))]
    · rw [mk_lt f z, mk_lt g z]
/-- a function that multiplies is put together by the primes -/
theorem mk_of (f g : Nat → Int) (g1 : g 1 = 1) (gm : ∀ a b, 0 < a → 0 < b → g (a * b) = g a * g b) : ∀ (k n : Nat), n ≤ k → 0 < n → (∀ p, Pm p → p ∣ n → f p = g p) → mk f n = g n
  | 0, n, h, h0, e => by omega
  | k + 1, n, h, h0, e => by
    by_cases z : 2 ≤ n
    · obtain ⟨a1, a2, a3⟩ := mf_spec z
      have l := mf_lt z
      have d := mf_div z
      have e2 : mf n * (n / mf n) = n := Nat.mul_div_cancel' a2
      rw [mk_step f z, e _ a1 a2, mk_of f g g1 gm k _ (by omega) d fun p hp hd => e p hp (Nat.dvd_trans hd (Nat.div_dvd_of_dvd a2)), ← gm _ _ (by have := a1.1; omega) d, e2]
    · have : n = 1 := by omega
      subst this
      rw [mk_one, g1]
end Law

set_option Elab.async false
set_option linter.all false
set_option maxRecDepth 100000
set_option maxHeartbeats 4000000
namespace Law
open PySem PySem.Spec PyProof.Rows L2 G
section
variable {P : Program} {w : World} {K : PySem.W.Frag} {mg : Str → Option Value} {base : Heap} {a : Ad}
theorem fdiv_exact {n p : Int} (hp : 0 < p) (h : n.fmod p = 0) : p * n.fdiv p = n := by
  have := Int.mul_fdiv_add_fmod n p
  rw [h] at this
  omega
def F_times : DF := fun ss R _ => ∃ n p : Int, ss = [.sh (.int n), .sh (.int p)] ∧ n ≠ 0 ∧ 2 ≤ p ∧ p ≤ 10000 ∧ ∀ (c : Nat) (m : Int), n = m * p ^ c → ¬ m.fmod p = 0 → R (.int c)
theorem times_step {n p k : Int} {c : Nat} (hp : 2 ≤ p) (hk : k ≠ 0) (hn : n = k * p ^ c) (h : k.fmod p = 0) : k.fdiv p ≠ 0 ∧ (k.fdiv p).natAbs < k.natAbs ∧ n = k.fdiv p * p ^ (c + 1) := by
  have e := fdiv_exact (by omega) h
  have h0 : k.fdiv p ≠ 0 := fun z => hk (by rw [← e, z, Int.mul_zero])
  refine ⟨h0, ?_, ?_⟩
  · have e2 : k.natAbs = p.natAbs * (k.fdiv p).natAbs := by rw [← Int.natAbs_mul, e]
    rw [e2]
    have h1 : 0 < (k.fdiv p).natAbs := by omega
    have h2 : 2 ≤ p.natAbs := by omega
    calc (k.fdiv p).natAbs < 2 * (k.fdiv p).natAbs := by omega
      _ ≤ p.natAbs * (k.fdiv p).natAbs := Nat.mul_le_mul_right _ h2
  · rw [hn, Int.pow_succ, ← e]
    rw [Int.mul_comm p (k.fdiv p), Int.mul_assoc, Int.mul_comm p (p ^ c)]
    congr 1
    rw [Int.mul_comm (k.fdiv p) p, e]
theorem log_le {p : Int} (h0 : 2 ≤ p) (h : p ≤ 10000) : p.natAbs.log2 < 9000 := draw_ok (by omega) (by omega)
theorem ok__law_times_in (T : Tx K mg a) (hS : Sy mg base a) : FnG P w K mg base true 1 a.f__law_times_in a.d__law_times_in (["number", "p"] : List Str) (fun _ => spD K F_times) := by
  refine fn_data T.F__law_times_in sc__law_times_in (fun ss R X z => by obtain ⟨_, _, h, _⟩ := z; rw [h] <;> rfl) fun cdv A outer s H E pl hr => ⟨_, (pss_cons (ps_set (i := 2) sc__law_times_in.nd rfl (Or.inl rfl) pe_int)
      (pss_cons (ps_while (passes_of rfl) (pt_cmpR (op_eqG hr.hu) (pe_op op_modN (pe_callTy call_intV (by rfl) T.n_int PyProof.Rows.boot_int (pa_cons (pv 0) pa_nil)) (pv 1)) pe_int (nomark _)) (pss_one (ps_par (i := 0) (j := 2) rfl sc__law_times_in.nd rfl rfl (by decide) rfl rfl (pa_cons (pe_op op_fdivG (pv 0) (pv 1)) (pa_cons (pe_op op_addG (pv 2) pe_int) pa_nil)) rfl)))
      (pss_one (ps_ret (pv 2))))), fun b ss R X h hX => ?_⟩
  obtain ⟨n, p, rfl, hn, h2, h3, q⟩ := h
  refine ds_seq (ds_asg (de_int ?_))
  refine ds_seq (ds_while (fun m ρ => ∃ (k : Int) (c : Nat), ρ = [.sh (.int k), .sh (.int p), .sh (.int c)] ∧ k ≠ 0 ∧ n = k * p ^ c ∧ m = k.natAbs) n.natAbs ⟨n, 0, rfl, hn, by simp, rfl⟩ (fun m ρ h => ?_))
  obtain ⟨k, c, rfl, hk, e, rfl⟩ := h
  refine dt_test (de_eqI (de_II (de_intc (de_var rfl (Or.inl ⟨k, rfl, de_var rfl ⟨k, p, rfl, rfl, by omega, de_int ⟨_, 0, rfl, rfl, _, rfl, ?_⟩⟩⟩)))))
  refine ite2 (fun z => ?_) (fun z => ?_)
  · have z' : k.fmod p = 0 := by simpa using z
    obtain ⟨s1, s2, s3⟩ := times_step h2 hk e z'
    refine ds_par (da_cons (de_II (de_var rfl (de_var rfl ⟨k, p, rfl, rfl, ⟨by omega, log_le h2 h3⟩, da_cons (de_addI (de_var rfl (de_int ⟨c, 1, rfl, rfl, da_nil ⟨_, _, rfl, _, s2, _, c + 1, rfl, s1, s3, rfl⟩⟩)))⟩))))
  · exact ds_ret (de_var rfl (q c k e (by simpa using z)))
theorem FnGvoid {P : Program} {w : World} {K : PySem.W.Frag} {mg : Str → Option Value} {base : Heap} {c : Bool} {k : Nat} {f : Addr} {fd : FuncData} {ps : List Str} : FnG P w K mg base c k f fd ps (fun _ _ _ _ _ => False) := { len := fun _ _ _ _ _ h => h.elim, run := fun _ _ _ _ _ _ _ _ _ _ _ _ _ _ _ h => h.elim }
def F_is : DF := fun ss R _ => ∃ u v : Int, ss = [.sh (.int u), .sh (.int v)] ∧ R (.bl (decide (u = v)))
theorem ok__law_is0 (T : Tx K mg a) (hS : Sy mg base a) : FnG P w K mg base true 1 a.f__law_is a.d__law_is (["told", "due"] : List Str) (fun _ => spD K F_is) := by
  refine fn_data T.F__law_is sc__law_is (fun ss R X z => by obtain ⟨_, _, h, _⟩ := z; rw [h] <;> rfl) fun cdv A outer s H E pl hr => ⟨_, (pss_cons (ps_if (pt_val (pe_callB (call_isG (pn := (fun _ _ _ => False)) (fun _ _ _ z => z.elim)) (by rfl) T.n_isinstance PyProof.Rows.boot_isinstance (pa_cons (pv 1) (pa_cons (pe_bltn (v := .ty "tuple") (by rfl) T.n_tuple PyProof.Rows.boot_tuple rfl) pa_nil)))) (pss_cons (ps_if (PW.pt (pw_or (pt_not (pt_val (pe_callB (call_isG (pn := (fun _ _ _ => False)) (fun _ _ _ z => z.elim)) (by rfl) T.n_isinstance PyProof.Rows.boot_isinstance (pa_cons (pv 0) (pa_cons (pe_bltn (v := .ty "tuple") (by rfl) T.n_tuple PyProof.Rows.boot_tuple rfl) pa_nil))))) (pw_or1 (pt_cmpR (op_neG hr.hu) (pe_callB call_lenV (by rfl) T.n_len PySem.boot_len (pa_cons (pv 0) pa_nil)) (pe_callB call_lenV (by rfl) T.n_len PySem.boot_len (pa_cons (pv 1) pa_nil)) (nomark _))))) (pss_one (ps_ret pe_bl)) pss_nil)
      (pss_one (ps_ret (pe_cmpR (op_eqG hr.hu) (pe_lc (own := [("at", 2)]) (by rfl) sc__law_is.nd (pi_range1 rfl T.n_range (pa_cons (pe_callB call_lenV (by rfl) T.n_len PySem.boot_len (pa_cons (pv 1) pa_nil)) pa_nil)) (blkOk_by (N := nm__law_is) (sc := defScope s__law_is) (by decide +kernel)) (fun _ _ _ _ _ => (pg_name (i := 2) sc__law_is.nd rfl (by first | exact Or.inl rfl | exact Or.inr rfl))) (fun _ _ _ _ _ => pts_one (pt_not (pt_val (pe_go (FnGvoid (c := true) (k := 0)) (hr.mono (by decide)) (pl := []) (fun _ h => nomatch h) (by rfl) T.g__law_is T.F__law_is.kp T.b__law_is lets0 (pa_cons (pe_ix (show IxR _ (rIx K) from ix_seq) (pv 0) (pv 2) (fun _ _ => rfl)) (pa_cons (pe_ix (show IxR _ (rIx K) from ix_seq) (pv 1) (pv 2) (fun _ _ => rfl)) pa_nil)))))) (fun _ _ _ _ _ => (pv 2))) (pe_lst pa_nil) (nomark _))))) pss_nil)
      (pss_cons (ps_if (pt_cmp (pc_isN (pv 1))) (pss_one (ps_ret (pe_cmp (pc_isN (pv 0)) rfl))) pss_nil)
      (pss_cons (ps_if (pt_cmpR op_isBlV (pv 1) pe_bl (nomark _)) (pss_one (ps_ret (pe_cmpR op_isBlV (pv 0) pe_bl (nomark _)))) pss_nil)
      (pss_cons (ps_if (pt_cmpR op_isBlV (pv 1) pe_bl (nomark _)) (pss_one (ps_ret (pe_cmpR op_isBlV (pv 0) pe_bl (nomark _)))) pss_nil)
      (pss_cons (ps_if (pt_val (pe_callB (call_isG (pn := (fun _ _ _ => False)) (fun _ _ _ z => z.elim)) (by rfl) T.n_isinstance PyProof.Rows.boot_isinstance (pa_cons (pv 1) (pa_cons (pe_bltn (v := .ty "str") (by rfl) T.n_str PyProof.Rows.boot_str rfl) pa_nil)))) (pss_one (ps_ret (pe_and (pe_callB (call_isG (pn := (fun _ _ _ => False)) (fun _ _ _ z => z.elim)) (by rfl) T.n_isinstance PyProof.Rows.boot_isinstance (pa_cons (pv 0) (pa_cons (pe_bltn (v := .ty "str") (by rfl) T.n_str PyProof.Rows.boot_str rfl) pa_nil))) (pe_one (pe_cmpR (op_eqG hr.hu) (pv 0) (pv 1) (nomark _)))))) pss_nil)
      (pss_one (ps_ret (pe_and (pe_callB (call_isG (pn := (fun _ _ _ => False)) (fun _ _ _ z => z.elim)) (by rfl) T.n_isinstance PyProof.Rows.boot_isinstance (pa_cons (pv 0) (pa_cons (pe_bltn (v := .ty "int") (by rfl) T.n_int PyProof.Rows.boot_int rfl) pa_nil))) (pe_and (pe_not (pe_callB (call_isG (pn := (fun _ _ _ => False)) (fun _ _ _ z => z.elim)) (by rfl) T.n_isinstance PyProof.Rows.boot_isinstance (pa_cons (pv 0) (pa_cons (pe_bltn (v := .ty "bool") (by rfl) T.n_bool PyProof.Rows.boot_bool rfl) pa_nil)))) (pe_one (pe_cmpR (op_eqG hr.hu) (pv 0) (pv 1) (nomark _)))))))))))), fun b ss R X h hX => ?_⟩
  obtain ⟨u, v, rfl, q⟩ := h
  refine ds_seq (ds_if (dt_test (de_isT (de_var rfl ⟨_, false, rfl, by decide +kernel, false, rfl, iteF (ds_next ?_)⟩))))
  refine ds_seq (ds_if (dt_test (de_isN (de_var rfl ⟨false, rfl, iteF (ds_next ?_)⟩))))
  refine ds_seq (ds_if (dt_test (de_isBl (de_var rfl ⟨false, rfl, iteF (ds_next ?_)⟩))))
  refine ds_seq (ds_if (dt_test (de_isBl (de_var rfl ⟨false, rfl, iteF (ds_next ?_)⟩))))
  refine ds_seq (ds_if (dt_test (de_isT (de_var rfl ⟨_, false, rfl, by decide +kernel, false, rfl, iteF (ds_next ?_)⟩))))
  refine ds_ret (de_andV (de_isT (de_var rfl ⟨_, true, rfl, by decide +kernel, true, rfl, iteT ?_⟩)))
  refine de_andV (de_notV (de_isT (de_var rfl ⟨_, false, rfl, by decide +kernel, false, rfl, true, rfl, iteT ?_⟩)))
  exact de_eqI (de_var rfl (de_var rfl ⟨u, v, rfl, rfl, q⟩))
/-- an int or a pair of ints, asked of itself -/
def F_isE : DF := fun ss R _ => ∃ x, ss = [.sh x, .sh x] ∧ ((∃ i, x = .int i) ∨ ∃ i j, x = .tup [.int i, .int j]) ∧ R (.bl true)
theorem ok__law_is (T : Tx K mg a) (hS : Sy mg base a) : FnG P w K mg base true 2 a.f__law_is a.d__law_is (["told", "due"] : List Str) (fun _ => spD K F_isE) := by
  refine fn_data T.F__law_is sc__law_is (fun ss R X z => by obtain ⟨_, h, _⟩ := z; rw [h] <;> rfl) fun cdv A outer s H E pl hr => ⟨_, (pss_cons (ps_if (pt_val (pe_callB (call_isG (pn := (fun _ _ _ => False)) (fun _ _ _ z => z.elim)) (by rfl) T.n_isinstance PyProof.Rows.boot_isinstance (pa_cons (pv 1) (pa_cons (pe_bltn (v := .ty "tuple") (by rfl) T.n_tuple PyProof.Rows.boot_tuple rfl) pa_nil)))) (pss_cons (ps_if (PW.pt (pw_or (pt_not (pt_val (pe_callB (call_isG (pn := (fun _ _ _ => False)) (fun _ _ _ z => z.elim)) (by rfl) T.n_isinstance PyProof.Rows.boot_isinstance (pa_cons (pv 0) (pa_cons (pe_bltn (v := .ty "tuple") (by rfl) T.n_tuple PyProof.Rows.boot_tuple rfl) pa_nil))))) (pw_or1 (pt_cmpR (op_neG hr.hu) (pe_callB call_lenV (by rfl) T.n_len PySem.boot_len (pa_cons (pv 0) pa_nil)) (pe_callB call_lenV (by rfl) T.n_len PySem.boot_len (pa_cons (pv 1) pa_nil)) (nomark _))))) (pss_one (ps_ret pe_bl)) pss_nil)
      (pss_one (ps_ret (pe_cmpR (op_eqG hr.hu) (pe_lc (own := [("at", 2)]) (by rfl) sc__law_is.nd (pi_range1 rfl T.n_range (pa_cons (pe_callB call_lenV (by rfl) T.n_len PySem.boot_len (pa_cons (pv 1) pa_nil)) pa_nil)) (blkOk_by (N := nm__law_is) (sc := defScope s__law_is) (by decide +kernel)) (fun _ _ _ _ _ => (pg_name (i := 2) sc__law_is.nd rfl (by first | exact Or.inl rfl | exact Or.inr rfl))) (fun _ _ _ _ _ => pts_one (pt_not (pt_val (pe_go (ok__law_is0 T hS) (hr.mono (by decide)) (pl := []) (fun _ h => nomatch h) (by rfl) T.g__law_is T.F__law_is.kp T.b__law_is lets0 (pa_cons (pe_ix (show IxR _ (rIx K) from ix_seq) (pv 0) (pv 2) (fun _ _ => rfl)) (pa_cons (pe_ix (show IxR _ (rIx K) from ix_seq) (pv 1) (pv 2) (fun _ _ => rfl)) pa_nil)))))) (fun _ _ _ _ _ => (pv 2))) (pe_lst pa_nil) (nomark _))))) pss_nil)
      (pss_cons (ps_if (pt_cmp (pc_isN (pv 1))) (pss_one (ps_ret (pe_cmp (pc_isN (pv 0)) rfl))) pss_nil)
      (pss_cons (ps_if (pt_cmpR op_isBlV (pv 1) pe_bl (nomark _)) (pss_one (ps_ret (pe_cmpR op_isBlV (pv 0) pe_bl (nomark _)))) pss_nil)
      (pss_cons (ps_if (pt_cmpR op_isBlV (pv 1) pe_bl (nomark _)) (pss_one (ps_ret (pe_cmpR op_isBlV (pv 0) pe_bl (nomark _)))) pss_nil)
      (pss_cons (ps_if (pt_val (pe_callB (call_isG (pn := (fun _ _ _ => False)) (fun _ _ _ z => z.elim)) (by rfl) T.n_isinstance PyProof.Rows.boot_isinstance (pa_cons (pv 1) (pa_cons (pe_bltn (v := .ty "str") (by rfl) T.n_str PyProof.Rows.boot_str rfl) pa_nil)))) (pss_one (ps_ret (pe_and (pe_callB (call_isG (pn := (fun _ _ _ => False)) (fun _ _ _ z => z.elim)) (by rfl) T.n_isinstance PyProof.Rows.boot_isinstance (pa_cons (pv 0) (pa_cons (pe_bltn (v := .ty "str") (by rfl) T.n_str PyProof.Rows.boot_str rfl) pa_nil))) (pe_one (pe_cmpR (op_eqG hr.hu) (pv 0) (pv 1) (nomark _)))))) pss_nil)
      (pss_one (ps_ret (pe_and (pe_callB (call_isG (pn := (fun _ _ _ => False)) (fun _ _ _ z => z.elim)) (by rfl) T.n_isinstance PyProof.Rows.boot_isinstance (pa_cons (pv 0) (pa_cons (pe_bltn (v := .ty "int") (by rfl) T.n_int PyProof.Rows.boot_int rfl) pa_nil))) (pe_and (pe_not (pe_callB (call_isG (pn := (fun _ _ _ => False)) (fun _ _ _ z => z.elim)) (by rfl) T.n_isinstance PyProof.Rows.boot_isinstance (pa_cons (pv 0) (pa_cons (pe_bltn (v := .ty "bool") (by rfl) T.n_bool PyProof.Rows.boot_bool rfl) pa_nil)))) (pe_one (pe_cmpR (op_eqG hr.hu) (pv 0) (pv 1) (nomark _)))))))))))), fun b ss R X h hX => ?_⟩
  obtain ⟨x, rfl, hx, q⟩ := h
  rcases hx with ⟨u, rfl⟩ | ⟨u, v, rfl⟩
  · refine ds_seq (ds_if (dt_test (de_isT (de_var rfl ⟨_, false, rfl, by decide +kernel, false, rfl, iteF (ds_next ?_)⟩))))
    refine ds_seq (ds_if (dt_test (de_isN (de_var rfl ⟨false, rfl, iteF (ds_next ?_)⟩))))
    refine ds_seq (ds_if (dt_test (de_isBl (de_var rfl ⟨false, rfl, iteF (ds_next ?_)⟩))))
    refine ds_seq (ds_if (dt_test (de_isBl (de_var rfl ⟨false, rfl, iteF (ds_next ?_)⟩))))
    refine ds_seq (ds_if (dt_test (de_isT (de_var rfl ⟨_, false, rfl, by decide +kernel, false, rfl, iteF (ds_next ?_)⟩))))
    refine ds_ret (de_andV (de_isT (de_var rfl ⟨_, true, rfl, by decide +kernel, true, rfl, iteT ?_⟩)))
    refine de_andV (de_notV (de_isT (de_var rfl ⟨_, false, rfl, by decide +kernel, false, rfl, true, rfl, iteT ?_⟩)))
    exact de_eqI (de_var rfl (de_var rfl ⟨u, u, rfl, rfl, by rw [decide_eq_true rfl]; exact q⟩))
  · refine ds_seq (ds_if (dt_test (de_isT (de_var rfl ⟨_, true, rfl, by decide +kernel, true, rfl, iteT ?_⟩))))
    refine ds_seq (ds_if (dt_or (dt_not (dt_test (de_isT (de_var rfl ⟨_, true, rfl, by decide +kernel, true, rfl, iteF ?_⟩))))))
    refine dt_test (de_neI (de_len (de_var rfl ⟨2, rfl, de_len (de_var rfl ⟨2, rfl, 2, 2, rfl, rfl, false, rfl, iteF (ds_next ?_)⟩)⟩)))
    refine ds_ret (de_eqA (de_new (dn_lc (di_range1 (da_cons (de_len (de_var rfl ⟨2, rfl, da_nil ⟨2, rfl, by decide, by decide, fun i acc => acc = [], rfl, fun i d acc hi hacc => ?_, fun acc hacc => ?_⟩⟩)))))))
    · refine dgw_name (by simp) ?_
      have hd : d = .int 0 ∨ d = .int 1 := by
        have e : rngD 0 ((2 : Int).toNat) = [.int 0, .int 1] := rfl
        have hm := List.mem_of_getElem? hi
        rw [e] at hm
        simpa using hm
      subst hacc
      rcases hd with rfl | rfl
      · refine dt_not (dt_test (de_call EL.no (dc_cons (de_ix (de_var rfl (de_var rfl ⟨0, .int u, rfl, rfl, ?_⟩))))))
        exact dc_cons (de_ix (de_var rfl (de_var rfl ⟨0, .int u, rfl, rfl, dc_nil ⟨u, u, rfl, true, by rw [decide_eq_true rfl], iteF rfl⟩⟩)))
      · refine dt_not (dt_test (de_call EL.no (dc_cons (de_ix (de_var rfl (de_var rfl ⟨1, .int v, rfl, rfl, ?_⟩))))))
        exact dc_cons (de_ix (de_var rfl (de_var rfl ⟨1, .int v, rfl, rfl, dc_nil ⟨v, v, rfl, true, by rw [decide_eq_true rfl], iteF rfl⟩⟩)))
    · subst hacc
      refine de_lst (da_nil ⟨by decide, ?_⟩)
      have O : Od 1 (.lst []) := Od.dec (by decide +kernel) (by decide +kernel) (by decide +kernel) (by decide +kernel)
      refine ⟨O.ok (by decide), O.ok (by decide), ?_⟩
      rw [O.refl]
      exact q
end
end Law

set_option Elab.async false
set_option linter.all false
set_option maxRecDepth 100000
set_option maxHeartbeats 4000000
namespace Law
open PySem PySem.Spec PyProof.Rows L2 G
/-- the primes below 1601 -/
def prs : List Nat := [
  2, 3, 5, 7, 11, 13, 17, 19, 23, 29, 31, 37, 41, 43, 47, 53, 59, 61, 67, 71, 73, 79, 83, 89,
  97, 101, 103, 107, 109, 113, 127, 131, 137, 139, 149, 151, 157, 163, 167, 173, 179, 181, 191, 193, 197, 199, 211, 223,
  227, 229, 233, 239, 241, 251, 257, 263, 269, 271, 277, 281, 283, 293, 307, 311, 313, 317, 331, 337, 347, 349, 353, 359,
  367, 373, 379, 383, 389, 397, 401, 409, 419, 421, 431, 433, 439, 443, 449, 457, 461, 463, 467, 479, 487, 491, 499, 503,
  509, 521, 523, 541, 547, 557, 563, 569, 571, 577, 587, 593, 599, 601, 607, 613, 617, 619, 631, 641, 643, 647, 653, 659,
  661, 673, 677, 683, 691, 701, 709, 719, 727, 733, 739, 743, 751, 757, 761, 769, 773, 787, 797, 809, 811, 821, 823, 827,
  829, 839, 853, 857, 859, 863, 877, 881, 883, 887, 907, 911, 919, 929, 937, 941, 947, 953, 967, 971, 977, 983, 991, 997,
  1009, 1013, 1019, 1021, 1031, 1033, 1039, 1049, 1051, 1061, 1063, 1069, 1087, 1091, 1093, 1097, 1103, 1109, 1117, 1123, 1129, 1151, 1153, 1163,
  1171, 1181, 1187, 1193, 1201, 1213, 1217, 1223, 1229, 1231, 1237, 1249, 1259, 1277, 1279, 1283, 1289, 1291, 1297, 1301, 1303, 1307, 1319, 1321,
  1327, 1361, 1367, 1373, 1381, 1399, 1409, 1423, 1427, 1429, 1433, 1439, 1447, 1451, 1453, 1459, 1471, 1481, 1483, 1487, 1489, 1493, 1499, 1511,
  1523, 1531, 1543, 1549, 1553, 1559, 1567, 1571, 1579, 1583, 1597]
/-- fundamental numbers: the number, its part by 2, its odd primes -/
def ents : List (Int × Nat × List Nat) := [
  ((Int.ofNat 1), 0, []), ((Int.negSucc 3), 1, []), ((Int.ofNat 8), 2, []), ((Int.negSucc 7), 3, []), ((Int.ofNat 12), 1, [3]),
  ((Int.negSucc 2), 0, [3]), ((Int.ofNat 5), 0, [5]), ((Int.negSucc 19), 1, [5]), ((Int.ofNat 24), 3, [3]), ((Int.negSucc 23), 2, [3]),
  ((Int.ofNat 28), 1, [7]), ((Int.negSucc 6), 0, [7]), ((Int.ofNat 40), 2, [5]), ((Int.negSucc 39), 3, [5]), ((Int.ofNat 44), 1, [11]),
  ((Int.negSucc 10), 0, [11]), ((Int.ofNat 13), 0, [13]), ((Int.negSucc 51), 1, [13]), ((Int.ofNat 56), 3, [7]), ((Int.negSucc 55), 2, [7]),
  ((Int.ofNat 60), 1, [3, 5]), ((Int.negSucc 14), 0, [3, 5]), ((Int.ofNat 17), 0, [17]), ((Int.negSucc 67), 1, [17]), ((Int.ofNat 76), 1, [19]),
  ((Int.negSucc 18), 0, [19]), ((Int.ofNat 21), 0, [3, 7]), ((Int.negSucc 83), 1, [3, 7]), ((Int.ofNat 88), 3, [11]), ((Int.negSucc 87), 2, [11]),
  ((Int.ofNat 92), 1, [23]), ((Int.negSucc 22), 0, [23]), ((Int.ofNat 104), 2, [13]), ((Int.negSucc 103), 3, [13]), ((Int.ofNat 29), 0, [29]),
  ((Int.negSucc 115), 1, [29]), ((Int.ofNat 120), 3, [3, 5]), ((Int.negSucc 119), 2, [3, 5]), ((Int.ofNat 124), 1, [31]), ((Int.negSucc 30), 0, [31]),
  ((Int.ofNat 33), 0, [3, 11]), ((Int.negSucc 131), 1, [3, 11]), ((Int.ofNat 136), 2, [17]), ((Int.negSucc 135), 3, [17]), ((Int.ofNat 140), 1, [5, 7]),
  ((Int.negSucc 34), 0, [5, 7]), ((Int.ofNat 37), 0, [37]), ((Int.negSucc 147), 1, [37]), ((Int.ofNat 152), 3, [19]), ((Int.negSucc 151), 2, [19]),
  ((Int.ofNat 156), 1, [3, 13]), ((Int.negSucc 38), 0, [3, 13]), ((Int.ofNat 41), 0, [41]), ((Int.negSucc 163), 1, [41]), ((Int.ofNat 168), 2, [3, 7]),
  ((Int.negSucc 167), 3, [3, 7]), ((Int.ofNat 172), 1, [43]), ((Int.negSucc 42), 0, [43]), ((Int.ofNat 184), 3, [23]), ((Int.negSucc 183), 2, [23]),
  ((Int.ofNat 188), 1, [47]), ((Int.negSucc 46), 0, [47]), ((Int.ofNat 204), 1, [3, 17]), ((Int.negSucc 50), 0, [3, 17]), ((Int.ofNat 53), 0, [53]),
  ((Int.negSucc 211), 1, [53]), ((Int.ofNat 220), 1, [5, 11]), ((Int.negSucc 54), 0, [5, 11]), ((Int.ofNat 57), 0, [3, 19]), ((Int.negSucc 227), 1, [3, 19]),
  ((Int.ofNat 232), 2, [29]), ((Int.negSucc 231), 3, [29]), ((Int.ofNat 236), 1, [59]), ((Int.negSucc 58), 0, [59]), ((Int.ofNat 61), 0, [61]),
  ((Int.negSucc 243), 1, [61]), ((Int.ofNat 248), 3, [31]), ((Int.negSucc 247), 2, [31]), ((Int.ofNat 65), 0, [5, 13]), ((Int.negSucc 259), 1, [5, 13]),
  ((Int.ofNat 264), 2, [3, 11]), ((Int.negSucc 263), 3, [3, 11]), ((Int.ofNat 268), 1, [67]), ((Int.negSucc 66), 0, [67]), ((Int.ofNat 69), 0, [3, 23]),
  ((Int.negSucc 275), 1, [3, 23]), ((Int.ofNat 280), 3, [5, 7]), ((Int.negSucc 279), 2, [5, 7]), ((Int.ofNat 284), 1, [71]), ((Int.negSucc 70), 0, [71]),
  ((Int.ofNat 73), 0, [73]), ((Int.negSucc 291), 1, [73]), ((Int.ofNat 296), 2, [37]), ((Int.negSucc 295), 3, [37]), ((Int.ofNat 77), 0, [7, 11]),
  ((Int.negSucc 307), 1, [7, 11]), ((Int.ofNat 312), 3, [3, 13]), ((Int.negSucc 311), 2, [3, 13]), ((Int.ofNat 316), 1, [79]), ((Int.negSucc 78), 0, [79]),
  ((Int.ofNat 328), 2, [41]), ((Int.negSucc 327), 3, [41]), ((Int.ofNat 332), 1, [83]), ((Int.negSucc 82), 0, [83]), ((Int.ofNat 85), 0, [5, 17]),
  ((Int.negSucc 339), 1, [5, 17]), ((Int.ofNat 344), 3, [43]), ((Int.negSucc 343), 2, [43]), ((Int.ofNat 348), 1, [3, 29]), ((Int.negSucc 86), 0, [3, 29]),
  ((Int.ofNat 89), 0, [89]), ((Int.negSucc 355), 1, [89]), ((Int.ofNat 364), 1, [7, 13]), ((Int.negSucc 90), 0, [7, 13]), ((Int.ofNat 93), 0, [3, 31]),
  ((Int.negSucc 371), 1, [3, 31]), ((Int.ofNat 376), 3, [47]), ((Int.negSucc 375), 2, [47]), ((Int.ofNat 380), 1, [5, 19]), ((Int.negSucc 94), 0, [5, 19]),
  ((Int.ofNat 97), 0, [97]), ((Int.negSucc 387), 1, [97]), ((Int.ofNat 101), 0, [101]), ((Int.negSucc 403), 1, [101]), ((Int.ofNat 408), 3, [3, 17]),
  ((Int.negSucc 407), 2, [3, 17]), ((Int.ofNat 412), 1, [103]), ((Int.negSucc 102), 0, [103]), ((Int.ofNat 105), 0, [3, 5, 7]), ((Int.negSucc 419), 1, [3, 5, 7]),
  ((Int.ofNat 424), 2, [53]), ((Int.negSucc 423), 3, [53]), ((Int.ofNat 428), 1, [107]), ((Int.negSucc 106), 0, [107]), ((Int.ofNat 109), 0, [109]),
  ((Int.negSucc 435), 1, [109]), ((Int.ofNat 440), 3, [5, 11]), ((Int.negSucc 439), 2, [5, 11]), ((Int.ofNat 444), 1, [3, 37]), ((Int.negSucc 110), 0, [3, 37]),
  ((Int.ofNat 113), 0, [113]), ((Int.negSucc 451), 1, [113]), ((Int.ofNat 456), 2, [3, 19]), ((Int.negSucc 455), 3, [3, 19]), ((Int.ofNat 460), 1, [5, 23]),
  ((Int.negSucc 114), 0, [5, 23]), ((Int.ofNat 472), 3, [59]), ((Int.negSucc 471), 2, [59]), ((Int.ofNat 476), 1, [7, 17]), ((Int.negSucc 118), 0, [7, 17]),
  ((Int.ofNat 488), 2, [61]), ((Int.negSucc 487), 3, [61]), ((Int.ofNat 492), 1, [3, 41]), ((Int.negSucc 122), 0, [3, 41]), ((Int.ofNat 508), 1, [127]),
  ((Int.negSucc 126), 0, [127]), ((Int.ofNat 129), 0, [3, 43]), ((Int.negSucc 515), 1, [3, 43]), ((Int.ofNat 520), 2, [5, 13]), ((Int.negSucc 519), 3, [5, 13]),
  ((Int.ofNat 524), 1, [131]), ((Int.negSucc 130), 0, [131]), ((Int.ofNat 133), 0, [7, 19]), ((Int.negSucc 531), 1, [7, 19]), ((Int.ofNat 536), 3, [67]),
  ((Int.negSucc 535), 2, [67]), ((Int.ofNat 137), 0, [137]), ((Int.negSucc 547), 1, [137]), ((Int.ofNat 552), 2, [3, 23]), ((Int.negSucc 551), 3, [3, 23]),
  ((Int.ofNat 556), 1, [139]), ((Int.negSucc 138), 0, [139]), ((Int.ofNat 141), 0, [3, 47]), ((Int.negSucc 563), 1, [3, 47]), ((Int.ofNat 568), 3, [71]),
  ((Int.negSucc 567), 2, [71]), ((Int.ofNat 572), 1, [11, 13]), ((Int.negSucc 142), 0, [11, 13]), ((Int.ofNat 145), 0, [5, 29]), ((Int.negSucc 579), 1, [5, 29]),
  ((Int.ofNat 584), 2, [73]), ((Int.negSucc 583), 3, [73]), ((Int.ofNat 149), 0, [149]), ((Int.negSucc 595), 1, [149]), ((Int.ofNat 604), 1, [151]),
  ((Int.negSucc 150), 0, [151]), ((Int.ofNat 616), 2, [7, 11]), ((Int.negSucc 615), 3, [7, 11]), ((Int.ofNat 620), 1, [5, 31]), ((Int.negSucc 154), 0, [5, 31]),
  ((Int.ofNat 157), 0, [157]), ((Int.negSucc 627), 1, [157]), ((Int.ofNat 632), 3, [79]), ((Int.negSucc 631), 2, [79]), ((Int.ofNat 636), 1, [3, 53]),
  ((Int.negSucc 158), 0, [3, 53]), ((Int.ofNat 161), 0, [7, 23]), ((Int.negSucc 643), 1, [7, 23]), ((Int.ofNat 652), 1, [163]), ((Int.negSucc 162), 0, [163]),
  ((Int.ofNat 165), 0, [3, 5, 11]), ((Int.negSucc 659), 1, [3, 5, 11]), ((Int.ofNat 664), 3, [83]), ((Int.negSucc 663), 2, [83]), ((Int.ofNat 668), 1, [167]),
  ((Int.negSucc 166), 0, [167]), ((Int.ofNat 680), 2, [5, 17]), ((Int.negSucc 679), 3, [5, 17]), ((Int.ofNat 173), 0, [173]), ((Int.negSucc 691), 1, [173]),
  ((Int.ofNat 696), 3, [3, 29]), ((Int.negSucc 695), 2, [3, 29]), ((Int.ofNat 177), 0, [3, 59]), ((Int.negSucc 707), 1, [3, 59]), ((Int.ofNat 712), 2, [89]),
  ((Int.negSucc 711), 3, [89]), ((Int.ofNat 716), 1, [179]), ((Int.negSucc 178), 0, [179]), ((Int.ofNat 181), 0, [181]), ((Int.negSucc 723), 1, [181]),
  ((Int.ofNat 728), 3, [7, 13]), ((Int.negSucc 727), 2, [7, 13]), ((Int.ofNat 732), 1, [3, 61]), ((Int.negSucc 182), 0, [3, 61]), ((Int.ofNat 185), 0, [5, 37]),
  ((Int.negSucc 739), 1, [5, 37]), ((Int.ofNat 744), 2, [3, 31]), ((Int.negSucc 743), 3, [3, 31]), ((Int.ofNat 748), 1, [11, 17]), ((Int.negSucc 186), 0, [11, 17]),
  ((Int.ofNat 760), 3, [5, 19]), ((Int.negSucc 759), 2, [5, 19]), ((Int.ofNat 764), 1, [191]), ((Int.negSucc 190), 0, [191]), ((Int.ofNat 193), 0, [193]),
  ((Int.negSucc 771), 1, [193]), ((Int.ofNat 776), 2, [97]), ((Int.negSucc 775), 3, [97]), ((Int.ofNat 780), 1, [3, 5, 13]), ((Int.negSucc 194), 0, [3, 5, 13]),
  ((Int.ofNat 197), 0, [197]), ((Int.negSucc 787), 1, [197]), ((Int.ofNat 796), 1, [199]), ((Int.negSucc 198), 0, [199]), ((Int.ofNat 201), 0, [3, 67]),
  ((Int.negSucc 803), 1, [3, 67]), ((Int.ofNat 808), 2, [101]), ((Int.negSucc 807), 3, [101]), ((Int.ofNat 812), 1, [7, 29]), ((Int.negSucc 202), 0, [7, 29]),
  ((Int.ofNat 205), 0, [5, 41]), ((Int.negSucc 819), 1, [5, 41]), ((Int.ofNat 824), 3, [103]), ((Int.negSucc 823), 2, [103]), ((Int.ofNat 209), 0, [11, 19]),
  ((Int.negSucc 835), 1, [11, 19]), ((Int.ofNat 840), 2, [3, 5, 7]), ((Int.negSucc 839), 3, [3, 5, 7]), ((Int.ofNat 844), 1, [211]), ((Int.negSucc 210), 0, [211]),
  ((Int.ofNat 213), 0, [3, 71]), ((Int.negSucc 851), 1, [3, 71]), ((Int.ofNat 856), 3, [107]), ((Int.negSucc 855), 2, [107]), ((Int.ofNat 860), 1, [5, 43]),
  ((Int.negSucc 214), 0, [5, 43]), ((Int.ofNat 217), 0, [7, 31]), ((Int.negSucc 867), 1, [7, 31]), ((Int.ofNat 872), 2, [109]), ((Int.negSucc 871), 3, [109]),
  ((Int.ofNat 876), 1, [3, 73]), ((Int.negSucc 218), 0, [3, 73]), ((Int.ofNat 221), 0, [13, 17]), ((Int.negSucc 883), 1, [13, 17]), ((Int.ofNat 888), 3, [3, 37]),
  ((Int.negSucc 887), 2, [3, 37]), ((Int.ofNat 892), 1, [223]), ((Int.negSucc 222), 0, [223]), ((Int.ofNat 904), 2, [113]), ((Int.negSucc 903), 3, [113]),
  ((Int.ofNat 908), 1, [227]), ((Int.negSucc 226), 0, [227]), ((Int.ofNat 229), 0, [229]), ((Int.negSucc 915), 1, [229]), ((Int.ofNat 920), 3, [5, 23]),
  ((Int.negSucc 919), 2, [5, 23]), ((Int.ofNat 924), 1, [3, 7, 11]), ((Int.negSucc 230), 0, [3, 7, 11]), ((Int.ofNat 233), 0, [233]), ((Int.negSucc 931), 1, [233]),
  ((Int.ofNat 940), 1, [5, 47]), ((Int.negSucc 234), 0, [5, 47]), ((Int.ofNat 237), 0, [3, 79]), ((Int.negSucc 947), 1, [3, 79]), ((Int.ofNat 952), 3, [7, 17]),
  ((Int.negSucc 951), 2, [7, 17]), ((Int.ofNat 956), 1, [239]), ((Int.negSucc 238), 0, [239]), ((Int.ofNat 241), 0, [241]), ((Int.negSucc 963), 1, [241]),
  ((Int.ofNat 984), 3, [3, 41]), ((Int.negSucc 983), 2, [3, 41]), ((Int.ofNat 988), 1, [13, 19]), ((Int.negSucc 246), 0, [13, 19]), ((Int.ofNat 249), 0, [3, 83]),
  ((Int.negSucc 995), 1, [3, 83]), ((Int.ofNat 1004), 1, [251]), ((Int.negSucc 250), 0, [251]), ((Int.ofNat 253), 0, [11, 23]), ((Int.negSucc 1011), 1, [11, 23]),
  ((Int.ofNat 1016), 3, [127]), ((Int.negSucc 1015), 2, [127]), ((Int.ofNat 1020), 1, [3, 5, 17]), ((Int.negSucc 254), 0, [3, 5, 17]), ((Int.ofNat 257), 0, [257]),
  ((Int.negSucc 1027), 1, [257]), ((Int.ofNat 1032), 2, [3, 43]), ((Int.negSucc 1031), 3, [3, 43]), ((Int.ofNat 1036), 1, [7, 37]), ((Int.negSucc 258), 0, [7, 37]),
  ((Int.ofNat 1048), 3, [131]), ((Int.negSucc 1047), 2, [131]), ((Int.ofNat 1052), 1, [263]), ((Int.negSucc 262), 0, [263]), ((Int.ofNat 265), 0, [5, 53]),
  ((Int.negSucc 1059), 1, [5, 53]), ((Int.ofNat 1064), 2, [7, 19]), ((Int.negSucc 1063), 3, [7, 19]), ((Int.ofNat 1068), 1, [3, 89]), ((Int.negSucc 266), 0, [3, 89]),
  ((Int.ofNat 269), 0, [269]), ((Int.negSucc 1075), 1, [269]), ((Int.ofNat 1084), 1, [271]), ((Int.negSucc 270), 0, [271]), ((Int.ofNat 273), 0, [3, 7, 13]),
  ((Int.negSucc 1091), 1, [3, 7, 13]), ((Int.ofNat 1096), 2, [137]), ((Int.negSucc 1095), 3, [137]), ((Int.ofNat 277), 0, [277]), ((Int.negSucc 1107), 1, [277]),
  ((Int.ofNat 1112), 3, [139]), ((Int.negSucc 1111), 2, [139]), ((Int.ofNat 281), 0, [281]), ((Int.negSucc 1123), 1, [281]), ((Int.ofNat 1128), 2, [3, 47]),
  ((Int.negSucc 1127), 3, [3, 47]), ((Int.ofNat 1132), 1, [283]), ((Int.negSucc 282), 0, [283]), ((Int.ofNat 285), 0, [3, 5, 19]), ((Int.negSucc 1139), 1, [3, 5, 19]),
  ((Int.ofNat 1144), 3, [11, 13]), ((Int.negSucc 1143), 2, [11, 13]), ((Int.ofNat 1148), 1, [7, 41]), ((Int.negSucc 286), 0, [7, 41]), ((Int.ofNat 1160), 2, [5, 29]),
  ((Int.negSucc 1159), 3, [5, 29]), ((Int.ofNat 1164), 1, [3, 97]), ((Int.negSucc 290), 0, [3, 97]), ((Int.ofNat 293), 0, [293]), ((Int.negSucc 1171), 1, [293]),
  ((Int.ofNat 1180), 1, [5, 59]), ((Int.negSucc 294), 0, [5, 59]), ((Int.ofNat 1192), 2, [149]), ((Int.negSucc 1191), 3, [149]), ((Int.ofNat 1196), 1, [13, 23]),
  ((Int.negSucc 298), 0, [13, 23])]
/-- Euler's sign -/
def sg (r p : Nat) : Int := if r ^ ((p - 1) / 2) % p = 1 then 1 else -1
/-- the mark of a prime -/
def pmk (d : Int) (p : Nat) : Int := if d % p = 0 then 0 else if p = 2 then (if d % 8 = 1 then 1 else -1) else sg (d % p).toNat p
def leg (n q : Nat) : Int :=
  let r := n ^ ((q - 1) / 2) % q
  if r = 0 then 0 else if r = 1 then 1 else -1
def chi (c n : Nat) : Int := match c with
  | 0 => 1
  | 1 => if n % 2 = 0 then 0 else if n % 4 = 1 then 1 else -1
  | 2 => if n % 2 = 0 then 0 else if n % 8 = 1 ∨ n % 8 = 7 then 1 else -1
  | _ => if n % 2 = 0 then 0 else if n % 8 = 1 ∨ n % 8 = 3 then 1 else -1
def legs (n : Nat) : List Nat → Int
  | [] => 1
  | q :: qs => leg n q * legs n qs
/-- the mark by the rests of the number -/
def ev (c : Nat) (qs : List Nat) (n : Nat) : Int := chi c n * legs n qs
/-- a root of a square -/
def rt (r p : Nat) : Nat :=
  let y := if p % 4 = 3 then r ^ ((p + 1) / 4) % p else let u := r ^ ((p + 3) / 8) % p; if u * u % p = r then u else u * 2 ^ ((p - 1) / 4) % p
  if y ≤ p / 2 then y else p - y
def okq (q : Nat) : Bool := (List.range q).all fun a => let r := a ^ ((q - 1) / 2) % q; r == 0 || r == 1 || r == q - 1
def fuZ (x : Int) : Int := if x % 4 = 1 then x else 4 * x
/-- sums from 1 to n -/
def sm (g : Nat → Int) : Nat → Int
  | 0 => 0
  | n + 1 => sm g n + g (n + 1)
/-- the three sums in one -/
def sm3 (g : Nat → Int) : Nat → Nat → Int → Int → Int → Int × Int × Int
  | 0, _, x, y, z => (x, y, z)
  | n + 1, a, x, y, z => match g a with
    | .ofNat 0 => sm3 g n (a + 1) x y z
    | .ofNat _ => sm3 g n (a + 1) (x + 1) (y + a) (z + (a * a : Nat))
    | .negSucc _ => sm3 g n (a + 1) (x - 1) (y - a) (z - (a * a : Nat))
/-- the law's count of forms -/
def clsA (P b : Nat) : Nat → Nat → Nat
  | 0, _ => 0
  | k + 1, a => if a * a ≤ P then (if P % a = 0 ∧ Nat.gcd (Nat.gcd a b) (P / a) = 1 then (if b = 0 ∨ a = b ∨ a * a = P then 1 else 2) else 0) + clsA P b k (a + 1) else 0
def clsB (n : Nat) : Nat → Nat → Nat
  | 0, _ => 0
  | k + 1, b => if 3 * b * b ≤ n then clsA ((b * b + n) / 4) b ((b * b + n) / 4 + 1) (max b 1) + clsB n k (b + 2) else 0
def okS (e : Int × Nat × List Nat) : Bool :=
  match sm3 (ev e.2.1 e.2.2) e.1.natAbs 1 0 0 0 with
  | (x, y, z) => (decide (y = 0) == decide (e.1 > 1)) && (decide (6 * z - 6 * y * e.1.natAbs + x * e.1.natAbs * e.1.natAbs = 0) == decide (e.1 < 0)) &&
      (decide (e.1 ≥ -4) || decide (y = -(clsB e.1.natAbs (e.1.natAbs + 1) (e.1.natAbs % 2) : Int) * e.1.natAbs))
/-- the squares' sign -/
def sqs (r p : Nat) : Bool := (List.range (p / 2)).any fun x => (x + 1) * (x + 1) % p == r

end Law

set_option Elab.async false
set_option linter.all false
set_option maxRecDepth 100000
set_option maxHeartbeats 4000000
namespace Law
theorem chk1 : (ents.all fun e => prs.all fun p => Nat.blt (e.1.natAbs + 400) p || pmk e.1 p == ev e.2.1 e.2.2 p) = true := by decide +kernel
end Law

set_option Elab.async false
set_option linter.all false
set_option maxRecDepth 100000
set_option maxHeartbeats 4000000
namespace Law
theorem chk2 : (prs.all fun q => q == 2 || Nat.blt 300 q || okq q) = true := by decide +kernel
end Law

set_option Elab.async false
set_option linter.all false
set_option maxRecDepth 100000
set_option maxHeartbeats 4000000
namespace Law
theorem chk3 : (ents.all fun e => Nat.ble e.1.natAbs 1200 && (e.2.2.all fun q => prs.contains q && Nat.ble 3 q && Nat.ble q 300 && e.1.natAbs % q == 0) && (e.2.1 == 0 || (e.2.1 == 1 && e.1.natAbs % 4 == 0) || e.1.natAbs % 8 == 0)) = true := by decide +kernel
end Law

set_option Elab.async false
set_option linter.all false
set_option maxRecDepth 100000
set_option maxHeartbeats 4000000
namespace Law
theorem chk4 : ((List.range 1601).all fun n => Nat.blt n 2 || ([2, 3, 5, 7, 11, 13, 17, 19, 23, 29, 31, 37].any fun d => Nat.blt d n && n % d == 0) || prs.contains n) = true := by decide +kernel
end Law

set_option Elab.async false
set_option linter.all false
set_option maxRecDepth 100000
set_option maxHeartbeats 4000000
namespace Law
theorem chk5 : ((List.range 301).all fun s => s == 0 || ([2, 3, 4, 5, 6, 7, 8, 9, 10, 11, 12, 13, 14, 15, 16, 17].any fun m => s % (m * m) == 0) || (((ents.any fun e => e.1 == fuZ s) && ents.any fun e => e.1 == fuZ (-s)))) = true := by decide +kernel
end Law

set_option Elab.async false
set_option linter.all false
set_option maxRecDepth 100000
set_option maxHeartbeats 4000000
namespace Law
theorem chk6 : (ents.all fun e => decide (400 ≤ e.1.natAbs) || okS e) = true := by decide +kernel
end Law

set_option Elab.async false
set_option linter.all false
set_option maxRecDepth 100000
set_option maxHeartbeats 4000000
namespace Law
theorem chk7 : (prs.all fun p => p == 2 || Nat.blt 400 p || (List.range (p / 2)).all fun x => ((x + 1) * (x + 1)) ^ ((p - 1) / 2) % p == 1) = true := by decide +kernel
theorem chk8 : (prs.all fun p => p == 2 || Nat.blt 400 p || (List.range p).all fun r => r == 0 || !(r ^ ((p - 1) / 2) % p == 1) || (rt r p * rt r p % p == r && Nat.ble 1 (rt r p) && Nat.ble (rt r p) (p / 2)) || sqs r p) = true := by decide +kernel
end Law

set_option Elab.async false
set_option linter.all false
set_option maxRecDepth 100000
set_option maxHeartbeats 4000000
namespace Law
open PySem PySem.Spec PyProof.Rows L2 G
theorem mo {x y : Int} (h : x.natAbs < 18446744073709551616) (h' : y.natAbs < 18446744073709551616) : IntMulOk x y := Lg.ok (n := 64) (m := 64) h h' (by decide) (by decide) (by decide)
theorem fdiv_nat (x y : Nat) : ((x : Int)).fdiv y = ((x / y : Nat) : Int) := by
  rw [Int.fdiv_eq_ediv_of_nonneg _ (by omega)]
  exact (Int.natCast_ediv x y).symm
theorem dec_mod (c d : Nat) : decide (((c : Int)).fmod d = 0) = decide (d ∣ c) := by
  rw [fmod_nat]
  by_cases h : d ∣ c
  · rw [decide_eq_true h, Nat.mod_eq_zero_of_dvd h] <;> rfl
  · rw [decide_eq_false h]
    have : c % d ≠ 0 := fun z => h (Nat.dvd_of_mod_eq_zero z)
    exact decide_eq_false (by omega)
theorem cdn {c d : Nat} (h : 0 < d) (h' : d < 18446744073709551616) : CDivA (c : Int) (d : Int) := ⟨by omega, Nat.lt_of_lt_of_le (Lg.log (n := 64) (x := (d : Int)) (by show (d : Int).natAbs < 2 ^ 64; omega) (by decide)) (by decide)⟩
def lin (l : List Nat) : List D := l.map fun (p : Nat) => D.int (p : Int)
def nats (l : List Nat) : D := .lst (lin l)
theorem lin_len {l : List Nat} : (lin l).length = l.length := by unfold lin; rw [List.length_map]
theorem lin_app {l m : List Nat} : lin (l ++ m) = lin l ++ lin m := by unfold lin; rw [List.map_append]
theorem pow_uniq {p e j m r : Nat} (p2 : 2 ≤ p) (hm : ¬ p ∣ m) (hr : ¬ p ∣ r) (h : p ^ j * r = p ^ e * m) : j = e ∧ r = m := by
  have p0 : ∀ i, 0 < p ^ i := fun i => Nat.pow_pos (by omega)
  have key : ∀ {a b x y : Nat}, p ^ a * x = p ^ b * y → ¬ p ∣ x → a < b → False := fun {a b x y} e n l => by
    obtain ⟨c, rfl⟩ : ∃ c, b = a + (c + 1) := ⟨b - a - 1, by omega⟩
    rw [Nat.pow_add, Nat.mul_assoc] at e
    have := Nat.eq_of_mul_eq_mul_left (p0 a) e
    exact n ⟨p ^ c * y, by rw [this, Nat.pow_succ]; grind⟩
  have je : j = e := by
    rcases Nat.lt_trichotomy j e with z | z | z
    · exact (key h hr z).elim
    · exact z
    · exact (key h.symm hm z).elim
  subst je
  exact ⟨rfl, Nat.eq_of_mul_eq_mul_left (p0 j) h⟩
theorem Fs.split {c p : Nat} {ps : List Nat} (h : Fs c (p :: ps)) : Pm p ∧ p ∣ c ∧ 0 < c ∧ ∀ j r, c = p ^ j * r → ¬ p ∣ r → Fs r ps ∧ 0 < j ∧ 0 < r := by
  have h0 := h.pos
  have hd := (h.le p List.mem_cons_self)
  refine ⟨hd.1, hd.2, h0, fun j r e hr => ?_⟩
  cases h with
  | cons hp n m0 e0 t =>
    obtain ⟨rfl, rfl⟩ := pow_uniq hp.1 n hr e.symm
    exact ⟨t, e0, m0⟩
theorem Fs.none {c : Nat} (h : Fs c []) : c = 1 := by cases h; rfl
/-- the state of the way through the numbers -/
structure PriI (n c d : Nat) (f : List Nat) : Prop where
  d2 : 2 ≤ d
  c0 : 0 < c
  cn : c ≤ n
  nod : Nod d c
  fs : ∀ ps, Fs c ps → Fs n (f ++ ps)
  ln : 2 ^ f.length * c ≤ n
theorem PriI.start {n : Nat} (h : 0 < n) : PriI n n 2 [] := ⟨by decide, h, Nat.le_refl _, Nod.two _, fun ps h => h, by simp⟩
theorem PriI.skip {n c d : Nat} {f : List Nat} (h : PriI n c d f) (nd : ¬ d ∣ c) : PriI n c (d + 1) f := ⟨by have := h.d2; omega, h.c0, h.cn, h.nod.next (Nat.dvd_refl _) nd, h.fs, h.ln⟩
theorem PriI.put {n c d j m : Nat} {f : List Nat} (h : PriI n c d f) (hd : d ∣ c) (e : c = d ^ j * m) (nd : ¬ d ∣ m) : PriI n m (d + 1) (f ++ [d]) := by
  have c0 := h.c0
  have d2 := h.d2
  have m0 : 0 < m := by
    rcases Nat.eq_zero_or_pos m with z | z
    · subst z; simp at e; omega
    · exact z
  have j0 : 0 < j := by
    rcases Nat.eq_zero_or_pos j with z | z
    · subst z; rw [Nat.pow_zero, Nat.one_mul] at e; subst e; exact (nd hd).elim
    · exact z
  have le : 2 * m ≤ c := by
    obtain ⟨i, rfl⟩ : ∃ i, j = i + 1 := ⟨j - 1, by omega⟩
    rw [e, Nat.pow_succ]
    have : 0 < d ^ i := Nat.pow_pos (by omega)
    have : 2 ≤ d ^ i * d := by
      have := Nat.mul_le_mul (show 1 ≤ d ^ i by omega) d2
      omega
    exact Nat.mul_le_mul_right m this
  refine ⟨by omega, m0, by have := h.cn; omega, h.nod.next ⟨d ^ j, by rw [e, Nat.mul_comm]⟩ nd, fun ps hps => ?_, ?_⟩
  · rw [List.append_assoc]
    refine h.fs (d :: ps) ?_
    rw [e]
    exact .cons (h.nod.pm d2 hd) nd m0 j0 hps
  · rw [List.length_append, List.length_singleton, Nat.pow_succ, Nat.mul_assoc]
    exact Nat.le_trans (Nat.mul_le_mul_left _ le) h.ln
theorem PriI.end1 {n c d : Nat} {f : List Nat} (h : PriI n c d f) (hc : 1 < c) (hd : c < d * d) : Fs n (f ++ [c]) := h.fs _ (Fs.one (h.nod.end hc hd))
theorem PriI.end0 {n c d : Nat} {f : List Nat} (h : PriI n c d f) (hc : ¬ 1 < c) : Fs n f := by
  have := h.c0
  have e : c = 1 := by omega
  subst e
  have := h.fs [] .nil
  rwa [List.append_nil] at this
theorem PriI.len {n c d : Nat} {f : List Nat} (h : PriI n c d f) (hn : n ≤ 1000000000) : f.length < 30 := by
  have a := h.ln
  have b := h.c0
  have : 2 ^ f.length ≤ 2 ^ f.length * c := Nat.le_mul_of_pos_right _ b
  have : 2 ^ f.length < 2 ^ 30 := Nat.lt_of_le_of_lt (Nat.le_trans this (Nat.le_trans a hn)) (by decide)
  exact (Nat.pow_lt_pow_iff_right (by decide)).mp this
theorem div_step {c d r : Nat} {j : Nat} {m : Nat} (d2 : 2 ≤ d) (e : c = d ^ j * m) (m0 : 0 < m) (h : d ∣ m) : c = d ^ (j + 1) * (m / d) ∧ 0 < m / d ∧ m / d < m := by
  obtain ⟨k, rfl⟩ := h
  rw [Nat.mul_div_cancel_left _ (by omega)]
  have k0 : 0 < k := by
    rcases Nat.eq_zero_or_pos k with z | z
    · subst z; simp at m0
    · exact z
  refine ⟨by rw [e, Nat.pow_succ, Nat.mul_assoc], k0, ?_⟩
  have := Nat.mul_le_mul_right k d2
  omega
section
variable {P : Program} {w : World} {K : PySem.W.Frag} {mg : Str → Option Value} {base : Heap} {a : Ad}
def F_pri : DF := fun ss R _ => ∃ n : Nat, ss = [.sh (.int n)] ∧ 0 < n ∧ n ≤ 1000000000 ∧ ∀ ps, Fs n ps → R (nats ps)
theorem ok_primes_of (T : Tx K mg a) (hS : Sy mg base a) : FnG P w K mg base true 1 a.f_primes_of a.d_primes_of (["number"] : List Str) (fun _ => spD K F_pri) := by
  refine fn_data T.F_primes_of sc_primes_of (fun ss R X z => by obtain ⟨_, h, _⟩ := z; rw [h] <;> rfl) fun cdv A outer s H E pl hr => ⟨_, (pss_cons (ps_par (i := 1) (j := 2) rfl sc_primes_of.nd rfl rfl (by decide) rfl rfl (pa_cons (pe_lst pa_nil) (pa_cons pe_int pa_nil)) rfl)
      (pss_cons (ps_while (passes_of rfl) (pt_cmpR op_le (pe_op op_mulG (pv 2) (pv 2)) (pv 0) (nomark _)) (pss_cons (ps_if (pt_cmpR (op_eqG hr.hu) (pe_op op_modN (pv 0) (pv 2)) pe_int (nomark _)) (pss_cons (ps_expr (pe_bm PySem.F.plainAttrs_list PySem.F.slot_list_append PySem.F.type_list_append mt_append (pv 1) (pa_cons (pv 2) pa_nil)))
      (pss_one (ps_while (passes_of rfl) (pt_cmpR (op_eqG hr.hu) (pe_op op_modN (pv 0) (pv 2)) pe_int (nomark _)) (pss_one (ps_aug (i := 0) sc_primes_of.nd rfl (Or.inl rfl) (pv 2) ip_fdivG))))) pss_nil)
      (pss_one (ps_aug (i := 2) sc_primes_of.nd rfl (Or.inl rfl) pe_int ip_add))))
      (pss_one (ps_ret (pe_op op_addG (pv 1) (pe_ifExp (pt_cmpR op_gt (pv 0) pe_int (nomark _)) (pe_lst (pa_cons (pv 0) pa_nil)) (pe_lst pa_nil))))))), fun b ss R X h hX => ?_⟩
  obtain ⟨n, rfl, n0, hn, q⟩ := h
  refine ds_seq (ds_parO (dn_lst (da_nil ⟨by simp, de_int ?_⟩)))
  refine ds_seq (ds_while (fun m ρ => ∃ (c d : Nat) (f : List Nat), ρ = [.sh (.int c), .ow (lin f), .sh (.int d)] ∧ PriI n c d f ∧ d ≤ n + 2 ∧ m = n + 3 - d) (n + 3 - 2) ⟨n, 2, [], rfl, PriI.start n0, by omega, rfl⟩ (fun m ρ h => ?_))
  obtain ⟨c, d, f, rfl, I, dn, rfl⟩ := h
  have cn := I.cn
  have d2 := I.d2
  refine dt_test (de_B0 (de_II (de_var rfl (de_var rfl ⟨d, d, rfl, rfl, mo (by omega) (by omega), de_var rfl ⟨_, c, rfl, rfl, _, rfl, ite2 (fun z => ?_) (fun z => ?_)⟩⟩))))
  · have z' : d * d ≤ c := by
      have : (d : Int) * d ≤ c := of_decide_eq_true z
      exact_mod_cast this
    have dc : d ≤ c := Nat.le_trans (Nat.le_mul_self d) z'
    refine ds_seq (DS.mid (mid := fun ρ => ∃ (c' : Nat) (f' : List Nat), ρ = [.sh (.int c'), .ow (lin f'), .sh (.int d)] ∧ PriI n c' (d + 1) f') ?_ fun ρ h => ?_)
    · refine ds_if (dt_test (de_eqI (de_II (de_var rfl (de_var rfl ⟨c, d, rfl, rfl, by omega, de_int ⟨_, 0, rfl, rfl, _, rfl, ?_⟩⟩)))))
      rw [dec_mod]
      by_cases hd : d ∣ c
      · rw [decide_eq_true hd]
        refine iteT (ds_seq (ds_app rfl (de_var rfl ⟨by rw [lin_len]; have := I.len hn; omega, ?_⟩)))
        refine ds_while (fun m ρ => ∃ (j r : Nat), ρ = [.sh (.int r), .ow (lin (f ++ [d])), .sh (.int d)] ∧ c = d ^ j * r ∧ 0 < r ∧ r ≤ c ∧ m = r) c ⟨0, c, by rw [lin_app]; rfl, by simp, I.c0, Nat.le_refl _, rfl⟩ (fun m ρ h => ?_)
        obtain ⟨j, r, rfl, er, r0, rc, rfl⟩ := h
        refine dt_test (de_eqI (de_II (de_var rfl (de_var rfl ⟨m, d, rfl, rfl, by omega, de_int ⟨_, 0, rfl, rfl, _, rfl, ?_⟩⟩))))
        rw [dec_mod]
        by_cases hr : d ∣ m
        · rw [decide_eq_true hr]
          obtain ⟨s1, s2, s3⟩ := div_step (r := 0) d2 er r0 hr
          refine iteT (ds_augD rfl (de_var rfl ⟨d, rfl, cdn (by omega) (by omega), ?_⟩))
          rw [fdiv_nat]
          exact ⟨m / d, s3, j + 1, m / d, rfl, s1, s2, by omega, rfl⟩
        · rw [decide_eq_false hr]
          exact iteF ⟨m, f ++ [d], rfl, I.put hd er hr⟩
      · rw [decide_eq_false hd]
        exact iteF (ds_next ⟨c, f, rfl, I.skip hd⟩)
    obtain ⟨c', f', rfl, I'⟩ := h
    exact ds_aug rfl (de_int ⟨1, rfl, n + 3 - (d + 1), by omega, c', d + 1, f', rfl, I', by omega, rfl⟩)
  · have z' : c < d * d := by
      have : ¬ (d : Int) * d ≤ c := fun y => z (decide_eq_true y)
      have : ¬ d * d ≤ c := fun y => this (by exact_mod_cast y)
      omega
    have lf := I.len hn
    refine ds_ret (de_new (dn_addL_own rfl (de_ite (dt_test (de_B0 (de_var rfl (de_int ⟨c, 1, rfl, rfl, _, rfl, ite2 (fun y => ?_) (fun y => ?_)⟩)))))))
    · have y' : 1 < c := by have : (c : Int) > 1 := of_decide_eq_true y; omega
      refine de_lst (da_cons (de_var rfl (da_nil ⟨by simp, _, rfl, by rw [lin_len]; simp; omega, ?_⟩)))
      have := q _ (I.end1 y' z')
      unfold nats at this
      rwa [lin_app] at this
    · have y' : ¬ 1 < c := fun x => y (decide_eq_true (by show (c : Int) > 1; omega))
      refine de_lst (da_nil ⟨by simp, _, rfl, by rw [lin_len]; simp; omega, ?_⟩)
      rw [List.append_nil]
      exact q _ (I.end0 y')
theorem ok__law_primes_in (T : Tx K mg a) (hS : Sy mg base a) : FnG P w K mg base true 1 a.f__law_primes_in a.d__law_primes_in (["number"] : List Str) (fun _ => spD K F_pri) := by
  refine fn_data T.F__law_primes_in sc__law_primes_in (fun ss R X z => by obtain ⟨_, h, _⟩ := z; rw [h] <;> rfl) fun cdv A outer s H E pl hr => ⟨_, (pss_cons (ps_par (i := 1) (j := 2) rfl sc__law_primes_in.nd rfl rfl (by decide) rfl rfl (pa_cons (pe_lst pa_nil) (pa_cons pe_int pa_nil)) rfl)
      (pss_cons (ps_while (passes_of rfl) (pt_cmpR op_gt (pv 0) pe_int (nomark _)) (pss_cons (ps_if (pt_cmpR op_gt (pe_op op_mulG (pv 2) (pv 2)) (pv 0) (nomark _)) (pss_one (ps_ret (pe_op op_addG (pv 1) (pe_lst (pa_cons (pv 0) pa_nil))))) pss_nil)
      (pss_cons (ps_if (pt_cmpR (op_eqG hr.hu) (pe_op op_modN (pe_callTy call_intV (by rfl) T.n_int PyProof.Rows.boot_int (pa_cons (pv 0) pa_nil)) (pv 2)) pe_int (nomark _)) (pss_one (ps_expr (pe_bm PySem.F.plainAttrs_list PySem.F.slot_list_append PySem.F.type_list_append mt_append (pv 1) (pa_cons (pv 2) pa_nil)))) pss_nil)
      (pss_cons (ps_while (passes_of rfl) (pt_cmpR (op_eqG hr.hu) (pe_op op_modN (pe_callTy call_intV (by rfl) T.n_int PyProof.Rows.boot_int (pa_cons (pv 0) pa_nil)) (pv 2)) pe_int (nomark _)) (pss_one (ps_set (i := 0) sc__law_primes_in.nd rfl (Or.inl rfl) (pe_op op_fdivG (pv 0) (pv 2)))))
      (pss_one (ps_set (i := 2) sc__law_primes_in.nd rfl (Or.inl rfl) (pe_op op_addG (pv 2) pe_int)))))))
      (pss_one (ps_ret (pv 1))))), fun b ss R X h hX => ?_⟩
  obtain ⟨n, rfl, n0, hn, q⟩ := h
  refine ds_seq (ds_parO (dn_lst (da_nil ⟨by simp, de_int ?_⟩)))
  refine ds_seq (ds_while (fun m ρ => ∃ (c d : Nat) (f : List Nat), ρ = [.sh (.int c), .ow (lin f), .sh (.int d)] ∧ PriI n c d f ∧ d ≤ n + 2 ∧ m = n + 3 - d) (n + 3 - 2) ⟨n, 2, [], rfl, PriI.start n0, by omega, rfl⟩ (fun m ρ h => ?_))
  obtain ⟨c, d, f, rfl, I, dn, rfl⟩ := h
  have cn := I.cn
  have d2 := I.d2
  have lf := I.len hn
  refine dt_test (de_B0 (de_var rfl (de_int ⟨c, 1, rfl, rfl, _, rfl, ite2 (fun y => ?_) (fun y => ?_)⟩)))
  · have y' : 1 < c := by have : (c : Int) > 1 := of_decide_eq_true y; omega
    refine ds_seq (ds_if (dt_test (de_B0 (de_II (de_var rfl (de_var rfl ⟨d, d, rfl, rfl, mo (by omega) (by omega), de_var rfl ⟨_, c, rfl, rfl, _, rfl, ite2 (fun z => ?_) (fun z => ?_)⟩⟩))))))
    · have z' : c < d * d := by
        have : (d : Int) * d > c := of_decide_eq_true z
        exact_mod_cast this
      refine ds_ret (de_new (dn_addL_own rfl (de_lst (da_cons (de_var rfl (da_nil ⟨by simp, _, rfl, by rw [lin_len]; simp; omega, ?_⟩))))))
      have := q _ (I.end1 y' z')
      unfold nats at this
      rwa [lin_app] at this
    have z' : d * d ≤ c := by
      have : ¬ (d : Int) * d > c := fun y => z (decide_eq_true y)
      have : ¬ d * d > c := fun y => this (by exact_mod_cast y)
      omega
    have dc : d ≤ c := Nat.le_trans (Nat.le_mul_self d) z'
    refine ds_next (ds_seq (DS.mid (mid := fun ρ => ρ = [.sh (.int c), .ow (lin (if d ∣ c then f ++ [d] else f)), .sh (.int d)]) ?_ fun ρ h => ?_))
    · refine ds_if (dt_test (de_eqI (de_II (de_intc (de_var rfl (Or.inl ⟨c, rfl, de_var rfl ⟨c, d, rfl, rfl, by omega, de_int ⟨_, 0, rfl, rfl, _, rfl, ?_⟩⟩⟩))))))
      rw [dec_mod]
      by_cases hd : d ∣ c
      · rw [decide_eq_true hd, if_pos hd, lin_app]
        exact iteT (ds_app rfl (de_var rfl ⟨by rw [lin_len]; omega, rfl⟩))
      · rw [decide_eq_false hd, if_neg hd]
        exact iteF (ds_next rfl)
    subst h
    refine ds_seq (ds_while (fun m ρ => ∃ (j r : Nat), ρ = [.sh (.int r), .ow (lin (if d ∣ c then f ++ [d] else f)), .sh (.int d)] ∧ c = d ^ j * r ∧ 0 < r ∧ r ≤ c ∧ m = r) c ⟨0, c, rfl, by simp, I.c0, Nat.le_refl _, rfl⟩ (fun m ρ h => ?_))
    obtain ⟨j, r, rfl, er, r0, rc, rfl⟩ := h
    refine dt_test (de_eqI (de_II (de_intc (de_var rfl (Or.inl ⟨m, rfl, de_var rfl ⟨m, d, rfl, rfl, by omega, de_int ⟨_, 0, rfl, rfl, _, rfl, ?_⟩⟩⟩)))))
    rw [dec_mod]
    by_cases hr : d ∣ m
    · rw [decide_eq_true hr]
      obtain ⟨s1, s2, s3⟩ := div_step (r := 0) d2 er r0 hr
      refine iteT (ds_asg (de_II (de_var rfl (de_var rfl ⟨m, d, rfl, rfl, cdn (by omega) (by omega), ?_⟩))))
      rw [fdiv_nat]
      exact ⟨m / d, s3, j + 1, m / d, rfl, s1, s2, by omega, rfl⟩
    · rw [decide_eq_false hr]
      refine iteF (ds_asg (de_addI (de_var rfl (de_int ⟨d, 1, rfl, rfl, n + 3 - (d + 1), by omega, m, d + 1, _, rfl, ?_, by omega, rfl⟩))))
      by_cases hd : d ∣ c
      · rw [if_pos hd]
        exact I.put hd er hr
      · rw [if_neg hd]
        have : j = 0 := by
          rcases Nat.eq_zero_or_pos j with z | z
          · exact z
          · obtain ⟨i, rfl⟩ : ∃ i, j = i + 1 := ⟨j - 1, by omega⟩
            exact (hd ⟨d ^ i * m, by rw [er, Nat.pow_succ]; grind⟩).elim
        subst this
        rw [Nat.pow_zero, Nat.one_mul] at er
        subst er
        exact I.skip hd
  · have y' : ¬ 1 < c := fun x => y (decide_eq_true (by show (c : Int) > 1; omega))
    exact ds_share (i := 1) (l := lin f) rfl (ds_ret (de_var rfl (show R (.lst (lin f)) from q _ (I.end0 y'))))
/-- the ends of a way through the primes' powers -/
def F_fos : DF := fun ss R _ => ∃ n : Nat, ss = [.sh (.int n)] ∧ 0 < n ∧ n ≤ 1000000000 ∧ ∀ s, SqF n s → R (.int s)
theorem drop_cons {ps : List Nat} {i p : Nat} (h : ps[i]? = some p) : ps.drop i = p :: ps.drop (i + 1) := by
  obtain ⟨hl, e⟩ := List.getElem?_eq_some_iff.mp h
  rw [List.drop_eq_getElem_cons hl, e]
theorem lin_at {ps : List Nat} {i : Nat} {d : D} (h : (lin ps)[i]? = some d) : ∃ p : Nat, d = .int p ∧ ps[i]? = some p := by
  unfold lin at h
  rw [List.getElem?_map] at h
  cases e : ps[i]? with
  | none => rw [e] at h; cases h
  | some p => rw [e] at h; exact ⟨p, (Option.some.inj h).symm, rfl⟩
theorem Sqs.le {n c f : Nat} (h : Sqs n c f) (hn : 0 < n) : f ≤ n := by
  obtain ⟨k, hk⟩ := h.k
  have k0 : 0 < k * k := by
    rcases Nat.eq_zero_or_pos (k * k) with z | z
    · rw [z] at hk; simp at hk; omega
    · exact z
  rw [hk, Nat.mul_assoc]
  exact Nat.le_mul_of_pos_right _ (Nat.mul_pos h.c0 k0)
theorem ok_free_of_squares (T : Tx K mg a) (hS : Sy mg base a) : FnG P w K mg base true 2 a.f_free_of_squares a.d_free_of_squares (["number"] : List Str) (fun _ => spD K F_fos) := by
  refine fn_data T.F_free_of_squares sc_free_of_squares (fun ss R X z => by obtain ⟨_, h, _⟩ := z; rw [h] <;> rfl) fun cdv A outer s H E pl hr => ⟨_, (pss_cons (ps_set (i := 1) sc_free_of_squares.nd rfl (Or.inl rfl) pe_int)
      (pss_cons (ps_for (passes_of rfl) rfl (pi_seq (pe_go (ok_primes_of T hS) (hr.mono (by decide)) (pl := []) (fun _ h => nomatch h) (by rfl) T.g_primes_of T.F_primes_of.kp T.b_primes_of lets0 (pa_cons (pv 0) pa_nil))) (pg_name (i := 2) sc_free_of_squares.nd rfl (Or.inl rfl)) (pss_cons (ps_set (i := 3) sc_free_of_squares.nd rfl (Or.inl rfl) pe_int)
      (pss_cons (ps_while (passes_of rfl) (pt_cmpR (op_eqG hr.hu) (pe_op op_modN (pv 0) (pv 2)) pe_int (nomark _)) (pss_one (ps_par (i := 0) (j := 3) rfl sc_free_of_squares.nd rfl rfl (by decide) rfl rfl (pa_cons (pe_op op_fdivG (pv 0) (pv 2)) (pa_cons (pe_op op_addG (pv 3) pe_int) pa_nil)) rfl)))
      (pss_one (ps_aug (i := 1) sc_free_of_squares.nd rfl (Or.inl rfl) (pe_ifExp (pt_cmpR (op_eqG hr.hu) (pe_op op_modN (pv 3) pe_int) pe_int (nomark _)) (pv 2) pe_int) ip_mulG)))))
      (pss_one (ps_ret (pv 1))))), fun b ss R X h hX => ?_⟩
  obtain ⟨n, rfl, n0, hn, q⟩ := h
  refine ds_seq (ds_asg (de_int ?_))
  refine ds_seq (ds_forI (di_seq (Q := fun _ => True) (de_call EL.no (dc_cons (de_var rfl (dc_nil ⟨n, rfl, n0, hn, fun ps hps => ⟨lin ps, rfl, fun i ρ => ∃ (c f : Nat) (s2 s3 : Sl), ρ = [.sh (.int c), .sh (.int f), s2, s3] ∧ Sqs n c f ∧ Fs c (ps.drop i) ∧ c ≤ n, ⟨n, 1, _, _, rfl, Sqs.start n0, hps, Nat.le_refl _⟩, fun i d ρ hi h => ?_, fun ρ h => ?_⟩⟩))))))
  · obtain ⟨c, f, s2, s3, rfl, I, hF, cn⟩ := h
    obtain ⟨p, rfl, hp⟩ := lin_at hi
    rw [drop_cons hp] at hF
    obtain ⟨pm, pd, c0, hsp⟩ := hF.split
    have p2 := pm.1
    have pc := Nat.le_of_dvd c0 pd
    have fl := I.le n0
    refine dg_name (ds_seq (ds_asg (de_int (ds_seq (ds_while (fun m ρ => ∃ (j r : Nat), ρ = [.sh (.int r), .sh (.int f), .sh (.int p), .sh (.int j)] ∧ c = p ^ j * r ∧ 0 < r ∧ r ≤ c ∧ m = r) c ⟨0, c, rfl, by simp, c0, Nat.le_refl _, rfl⟩ (fun m ρ h => ?_))))))
    obtain ⟨j, r, rfl, er, r0, rc, rfl⟩ := h
    refine dt_test (de_eqI (de_II (de_var rfl (de_var rfl ⟨m, p, rfl, rfl, by omega, de_int ⟨_, 0, rfl, rfl, _, rfl, ?_⟩⟩))))
    rw [dec_mod]
    by_cases hr : p ∣ m
    · rw [decide_eq_true hr]
      obtain ⟨t1, t2, t3⟩ := div_step (r := 0) p2 er r0 hr
      refine iteT (ds_par (da_cons (de_II (de_var rfl (de_var rfl ⟨m, p, rfl, rfl, cdn (by omega) (by omega), da_cons (de_addI (de_var rfl (de_int ⟨j, 1, rfl, rfl, da_nil ⟨_, _, rfl, ?_⟩⟩)))⟩)))))
      rw [fdiv_nat]
      exact ⟨m / p, t3, j + 1, m / p, rfl, t1, t2, by omega, rfl⟩
    · rw [decide_eq_false hr]
      obtain ⟨hF', j0, _⟩ := hsp j m er hr
      refine iteF (ds_augM rfl (de_ite (dt_test (de_eqI (de_II (de_var rfl (de_int ⟨j, 2, rfl, rfl, by decide, de_int ⟨_, 1, rfl, rfl, _, rfl, ?_⟩⟩)))))))
      rw [show ((j : Int)).fmod 2 = ((j % 2 : Nat) : Int) from fmod_nat j 2]
      by_cases ho : j % 2 = 1
      · rw [ho]
        refine iteT (de_var rfl ⟨p, rfl, mo (by omega) (by omega), m, f * p, _, _, by rw [Int.natCast_mul]; rfl, ?_, hF', by omega⟩)
        obtain ⟨i, rfl⟩ : ∃ i, j = 2 * i + 1 := ⟨j / 2, by omega⟩
        rw [er] at I
        exact I.odd pm hr r0
      · rw [show j % 2 = 0 by omega]
        refine iteF (de_int ⟨1, rfl, mo (by omega) (by omega), m, f, _, _, by rw [Int.mul_one]; rfl, ?_, hF', by omega⟩)
        obtain ⟨i, rfl⟩ : ∃ i, j = 2 * i := ⟨j / 2, by omega⟩
        rw [er] at I
        exact I.even r0
  · obtain ⟨c, f, s2, s3, rfl, I, hF, cn⟩ := h
    rw [lin_len, List.drop_length] at hF
    have := hF.none
    subst this
    exact ds_ret (de_var rfl (q _ I.end))
def sgZ (x : Int) (s : Nat) : Int := if x > 0 then s else -s
def F_fun : DF := fun ss R _ => ∃ x : Int, ss = [.sh (.int x)] ∧ x ≠ 0 ∧ x.natAbs ≤ 1000000000 ∧ ∀ s, SqF x.natAbs s → R (.int (fuZ (sgZ x s)))
theorem SqF.le {n s : Nat} (h : SqF n s) (hn : 0 < n) : s ≤ n := by
  obtain ⟨_, ⟨k, hk⟩, _⟩ := h
  have k0 : 0 < k * k := by
    rcases Nat.eq_zero_or_pos (k * k) with z | z
    · rw [z] at hk; simp at hk; omega
    · exact z
  rw [hk]
  exact Nat.le_mul_of_pos_right _ k0
theorem fmod_pos (x : Int) {p : Int} (h : 0 < p) : x.fmod p = x % p := Int.fmod_eq_emod_of_nonneg _ (by omega)
theorem ok_fundamental_by (T : Tx K mg a) (hS : Sy mg base a) : FnG P w K mg base true 3 a.f_fundamental_by a.d_fundamental_by (["number"] : List Str) (fun _ => spD K F_fun) := by
  refine fn_data T.F_fundamental_by sc_fundamental_by (fun ss R X z => by obtain ⟨_, h, _⟩ := z; rw [h] <;> rfl) fun cdv A outer s H E pl hr => ⟨_, (pss_cons (ps_set (i := 1) sc_fundamental_by.nd rfl (Or.inl rfl) (pe_op op_mulG (pe_go (ok_free_of_squares T hS) (hr.mono (by decide)) (pl := []) (fun _ h => nomatch h) (by rfl) T.g_free_of_squares T.F_free_of_squares.kp T.b_free_of_squares lets0 (pa_cons (pe_callB call_absV (by rfl) T.n_abs (by decide +kernel) (pa_cons (pv 0) pa_nil)) pa_nil)) (pe_ifExp (pt_cmpR op_gt (pv 0) pe_int (nomark _)) pe_int (pe_un un_neg pe_int))))
      (pss_one (ps_ret (pe_ifExp (pt_cmpR (op_eqG hr.hu) (pe_op op_modN (pv 1) pe_int) pe_int (nomark _)) (pv 1) (pe_op op_mulG pe_int (pv 1)))))), fun b ss R X h hX => ?_⟩
  obtain ⟨x, rfl, x0, hx, q⟩ := h
  have rest : ∀ s : Nat, SqF x.natAbs s → ∀ d, d = D.int (sgZ x s) → DS K b [.sh (.int x), .sh d] (tRet (tIf (tTest (tOp (rEqG K) (tOp (rI (fun x j => j ≠ 0) fun i j => V.int (i.fmod j)) (tVar 1) (tC (V.int 4))) (tC (V.int 1)))) (tVar 1) (tOp (rI IntMulOk fun i j => V.int (i * j)) (tC (V.int 4)) (tVar 1)))) (fun _ => R .non) R (fun _ => False) (fun _ => False) := fun s hs d e => by
    subst e
    have q' := q s hs
    have sl := hs.le (by omega)
    have zl : (sgZ x s).natAbs ≤ 1000000000 := by unfold sgZ; split <;> omega
    unfold fuZ at q'
    refine ds_ret (de_ite (dt_test (de_eqI (de_II (de_var rfl (de_int ⟨_, 4, rfl, rfl, by decide, de_int ⟨_, 1, rfl, rfl, _, rfl, ?_⟩⟩))))))
    rw [fmod_pos _ (by decide)]
    refine ite2 (fun z => ?_) (fun z => ?_)
    · rw [if_pos (of_decide_eq_true z)] at q'
      exact de_var rfl q'
    · rw [if_neg (fun y => z (decide_eq_true y))] at q'
      exact de_II (de_int (de_var rfl ⟨4, _, rfl, rfl, mo (by decide) (by omega), q'⟩))
  refine ds_seq (ds_asg (de_II (de_call EL.no (dc_cons (de_abs (de_var rfl ⟨x, rfl, dc_nil ⟨x.natAbs, by rw [abs_if], by omega, hx, fun s hs => ?_⟩⟩))))))
  have sl := hs.le (by omega)
  refine de_ite (dt_test (de_B0 (de_var rfl (de_int ⟨x, 0, rfl, rfl, _, rfl, ite2 (fun z => ?_) (fun z => ?_)⟩))))
  · refine de_int ⟨_, 1, rfl, rfl, mo (by omega) (by decide), rest s hs _ ?_⟩
    unfold sgZ
    rw [if_pos (of_decide_eq_true z), Int.mul_one]
  · refine de_un (de_int ⟨1, rfl, _, -1, rfl, rfl, mo (by omega) (by decide), rest s hs _ ?_⟩)
    unfold sgZ
    rw [if_neg (fun y => z (decide_eq_true y)), Int.mul_neg, Int.mul_one]
end
end Law

set_option Elab.async false
set_option linter.all false
set_option maxRecDepth 100000
set_option maxHeartbeats 4000000
namespace Law
open PySem PySem.Spec PyProof.Rows L2 G
/-- a fundamental number -/
def FuI (d : Int) : Prop := d ≠ 0 ∧ ∃ s, SqF d.natAbs s ∧ fuZ (sgZ d s) = d
def BadN (x : D) : Prop := isI x = false ∨ ∃ i : Int, x = .int i ∧ (i = 0 ∨ 1000000000 < i.natAbs)
def BadD (x : D) : Prop := isI x = false ∨ ∃ i : Int, x = .int i ∧ (i = 0 ∨ 1000000000 < i.natAbs ∨ ∀ s, SqF i.natAbs s → fuZ (sgZ i s) ≠ i)
/-- what need_mark does -/
def NM (a : Ad) (x : D) (X : Addr → List (Str × D) → Prop) (ok : Prop) : Prop :=
  (∃ d : Int, x = .int d ∧ FuI d ∧ d.natAbs ≤ 1000000000 ∧ if d.natAbs ≤ 50000 then ok else X a.c_TooMany [("limit", .int 50000), ("many", .int d.natAbs), ("what", .str "D")]) ∨ (BadD x ∧ X a.c_BadNumber [("number", x), ("what", .str "D")])
theorem sg_one (r p : Nat) : sg r p = 1 ∨ sg r p = -1 := by
  unfold sg; split <;> simp
theorem pmk_le (d : Int) (p : Nat) : (pmk d p).natAbs ≤ 1 := by
  unfold pmk
  rcases sg_one (d % p).toNat p with h | h
  · split
    · decide
    · split
      · split <;> decide
      · rw [h] <;> decide
  · split
    · decide
    · split
      · split <;> decide
      · rw [h] <;> decide
theorem sg_step (f g u p : Nat) : (f * (g * g % p) ^ u) % p = (f * (g * g) ^ u) % p := by
  rw [Nat.mul_mod, ← Nat.pow_mod, ← Nat.mul_mod]
section
variable {P : Program} {w : World} {K : PySem.W.Frag} {mg : Str → Option Value} {base : Heap} {a : Ad}
theorem ok_less_by (T : Tx K mg a) (hS : Sy mg base a) : FnG P w K mg base true 3 a.f_less_by a.d_less_by (["one", "other"] : List Str) (fun _ => spD K F_sub) := by
  refine fn_data T.F_less_by sc_less_by (fun ss R X z => by obtain ⟨_, _, _, _, _, _, h, _⟩ := z; rw [h] <;> rfl) fun cdv A outer s H E pl hr => ⟨_, (pss_one (ps_ret (pe_go (ok_added T hS) (hr.mono (by decide)) (pl := []) (fun _ h => nomatch h) (by rfl) T.g_added T.F_added.kp T.b_added lets0 (pa_cons (pv 0) (pa_cons (pe_go (ok_opposite T hS) (hr.mono (by decide)) (pl := []) (fun _ h => nomatch h) (by rfl) T.g_opposite T.F_opposite.kp T.b_opposite lets0 (pa_cons (pv 1) pa_nil)) pa_nil))))), fun b ss R X h hX => ?_⟩
  obtain ⟨x, y, t, v, u, l, rfl, two, q⟩ := h
  exact ds_ret (de_call EL.no (dc_cons (de_var rfl (dc_cons (de_call EL.no (dc_cons (de_var rfl (dc_nil ⟨y, u, l, rfl, two.y, dc_nil ⟨x, _, t, v, -u, l, rfl, two.opp, q⟩⟩))))))))
def F_fof (a : Ad) : DF := fun ss R X => ∃ x, ss = [.sh x] ∧ Pl x ∧ ((∃ i : Int, x = .int i ∧ i ≠ 0 ∧ i.natAbs ≤ 1000000000 ∧ ∀ s, SqF i.natAbs s → R (.int (fuZ (sgZ i s)))) ∨ (BadN x ∧ X a.c_BadNumber [("number", x), ("what", .str "number")]))
theorem ok_fundamental_of (T : Tx K mg a) (hS : Sy mg base a) : FnG P w K mg base true 4 a.f_fundamental_of a.d_fundamental_of (["number"] : List Str) (fun _ => spD K (F_fof a)) := by
  refine fn_data T.F_fundamental_of sc_fundamental_of (fun ss R X z => by obtain ⟨_, h, _⟩ := z; rw [h] <;> rfl) fun cdv A outer s H E pl hr => ⟨_, (pss_cons (ps_if (PW.pt (pw_or (pt_not (pt_val (pe_go (ok_is_integer T hS) (hr.mono (by decide)) (pl := []) (fun _ h => nomatch h) (by rfl) T.g_is_integer T.F_is_integer.kp T.b_is_integer lets0 (pa_cons (pv 0) pa_nil)))) (pw_or (pt_cmpR (op_eqG hr.hu) (pv 0) pe_int (nomark _)) (pw_or1 (pt_cmpR op_gt (pe_callB call_absV (by rfl) T.n_abs (by decide +kernel) (pa_cons (pv 0) pa_nil)) (pe_globI (by rfl) T.k_MOST_NUMBER) (nomark _)))))) (pss_one (ps_raiseN rfl (takes_of rfl rfl rfl rfl) (pmk_oex (dvs := []) (ds := []) T.O_BadNumber T.i_BadNumber T.ti_BadNumber (in_BadNumber T) (Rm.room (k := 2) (hr.mono (by decide))) T.bi_BadNumber .nil pass0 (by rfl) T.g_BadNumber (pa_cons pe_str (pa_cons (pv 0) pa_nil))))) pss_nil)
      (pss_one (ps_ret (pe_go (ok_fundamental_by T hS) (hr.mono (by decide)) (pl := []) (fun _ h => nomatch h) (by rfl) T.g_fundamental_by T.F_fundamental_by.kp T.b_fundamental_by lets0 (pa_cons (pv 0) pa_nil))))), fun b ss R X h hX => ?_⟩
  obtain ⟨x, rfl, hx, q⟩ := h
  have bad : BadN x → X a.c_BadNumber [("number", x), ("what", .str "number")] := fun hb => by
    rcases q with ⟨i, rfl, i0, i1, _⟩ | ⟨_, q⟩
    · rcases hb with z | ⟨j, e, z⟩
      · cases z
      · cases e; omega
    · exact q
  refine ds_seq (ds_if (dt_or (dt_not (dt_test (de_call EL.no (dc_cons (de_var rfl (dc_nil ⟨x, rfl, hx, isI x, rfl, ?_⟩))))))))
  cases eu : isI x with
  | false => exact iteT (iteT (ds_raise (hX _) (da_cons (de_str (da_cons (de_var rfl (da_nil ⟨rfl, by decide, bad (Or.inl eu)⟩)))))))
  | true =>
    obtain ⟨i, rfl⟩ : ∃ i, x = .int i := by cases x <;> first | exact ⟨_, rfl⟩ | cases eu
    refine iteF (dt_or (dt_test (de_eqI (de_var rfl (de_int ⟨i, 0, rfl, rfl, _, rfl, ?_⟩)))))
    by_cases i0 : i = 0
    · rw [decide_eq_true i0]
      exact iteT (iteT (ds_raise (hX _) (da_cons (de_str (da_cons (de_var rfl (da_nil ⟨rfl, by decide, bad (Or.inr ⟨i, rfl, Or.inl i0⟩)⟩)))))))
    · rw [decide_eq_false i0]
      refine iteF (dt_test (de_B0 (de_abs (de_var rfl ⟨i, rfl, de_int ⟨_, 1000000000, rfl, rfl, _, rfl, ?_⟩⟩))))
      rw [abs_if]
      refine ite2 (fun z => ?_) (fun z => ?_)
      · have z' : ((i.natAbs : Nat) : Int) > 1000000000 := of_decide_eq_true z
        exact ds_raise (hX _) (da_cons (de_str (da_cons (de_var rfl (da_nil ⟨rfl, by decide, bad (Or.inr ⟨i, rfl, Or.inr (by omega)⟩)⟩)))))
      · have z' : ¬ ((i.natAbs : Nat) : Int) > 1000000000 := fun y => z (decide_eq_true y)
        rcases q with ⟨j, e, j0, j1, q⟩ | ⟨hb, _⟩
        · cases e
          exact ds_next (ds_ret (de_call EL.no (dc_cons (de_var rfl (dc_nil ⟨i, rfl, j0, j1, q⟩)))))
        · rcases hb with y | ⟨j, e, y⟩
          · cases y
          · cases e; omega
def F_nm (a : Ad) : DF := fun ss R X => ∃ x, ss = [.sh x] ∧ Pl x ∧ NM a x X (R .non)
theorem ok_need_mark (T : Tx K mg a) (hS : Sy mg base a) : FnG P w K mg base true 4 a.f_need_mark a.d_need_mark (["D"] : List Str) (fun _ => spD K (F_nm a)) := by
  refine fn_data T.F_need_mark sc_need_mark (fun ss R X z => by obtain ⟨_, h, _⟩ := z; rw [h] <;> rfl) fun cdv A outer s H E pl hr => ⟨_, (pss_cons (ps_if (PW.pt (pw_or (pt_not (pt_val (pe_go (ok_is_integer T hS) (hr.mono (by decide)) (pl := []) (fun _ h => nomatch h) (by rfl) T.g_is_integer T.F_is_integer.kp T.b_is_integer lets0 (pa_cons (pv 0) pa_nil)))) (pw_or (pt_cmpR (op_eqG hr.hu) (pv 0) pe_int (nomark _)) (pw_or (pt_cmpR op_gt (pe_callB call_absV (by rfl) T.n_abs (by decide +kernel) (pa_cons (pv 0) pa_nil)) (pe_globI (by rfl) T.k_MOST_NUMBER) (nomark _)) (pw_or1 (pt_cmpR (op_neG hr.hu) (pe_go (ok_fundamental_by T hS) (hr.mono (by decide)) (pl := []) (fun _ h => nomatch h) (by rfl) T.g_fundamental_by T.F_fundamental_by.kp T.b_fundamental_by lets0 (pa_cons (pv 0) pa_nil)) (pv 0) (nomark _))))))) (pss_one (ps_raiseN rfl (takes_of rfl rfl rfl rfl) (pmk_oex (dvs := []) (ds := []) T.O_BadNumber T.i_BadNumber T.ti_BadNumber (in_BadNumber T) (Rm.room (k := 2) (hr.mono (by decide))) T.bi_BadNumber .nil pass0 (by rfl) T.g_BadNumber (pa_cons pe_str (pa_cons (pv 0) pa_nil))))) pss_nil)
      (pss_one (ps_if (pt_cmpR op_gt (pe_callB call_absV (by rfl) T.n_abs (by decide +kernel) (pa_cons (pv 0) pa_nil)) (pe_globI (by rfl) T.k_MOST_MARK) (nomark _)) (pss_one (ps_raiseN rfl (takes_of rfl rfl rfl rfl) (pmk_oex (dvs := []) (ds := []) T.O_TooMany T.i_TooMany T.ti_TooMany (in_TooMany T) (Rm.room (k := 2) (hr.mono (by decide))) T.bi_TooMany .nil pass0 (by rfl) T.g_TooMany (pa_cons pe_str (pa_cons (pe_callB call_absV (by rfl) T.n_abs (by decide +kernel) (pa_cons (pv 0) pa_nil)) (pa_cons (pe_globI (by rfl) T.k_MOST_MARK) pa_nil)))))) pss_nil))), fun b ss R X h hX => ?_⟩
  obtain ⟨x, rfl, hx, q⟩ := h
  have bad : BadD x → X a.c_BadNumber [("number", x), ("what", .str "D")] := fun hb => by
    rcases q with ⟨i, rfl, ⟨i0, s, hs, es⟩, i1, _⟩ | ⟨_, q⟩
    · rcases hb with z | ⟨j, e, z⟩
      · cases z
      · cases e
        rcases z with z | z | z
        · exact (i0 z).elim
        · omega
        · exact (z s hs es).elim
    · exact q
  refine ds_seq (ds_if (dt_or (dt_not (dt_test (de_call EL.no (dc_cons (de_var rfl (dc_nil ⟨x, rfl, hx, isI x, rfl, ?_⟩))))))))
  cases eu : isI x with
  | false => exact iteT (iteT (ds_raise (hX _) (da_cons (de_str (da_cons (de_var rfl (da_nil ⟨rfl, by decide, bad (Or.inl eu)⟩)))))))
  | true =>
    obtain ⟨i, rfl⟩ : ∃ i, x = .int i := by cases x <;> first | exact ⟨_, rfl⟩ | cases eu
    refine iteF (dt_or (dt_test (de_eqI (de_var rfl (de_int ⟨i, 0, rfl, rfl, _, rfl, ?_⟩)))))
    by_cases i0 : i = 0
    · rw [decide_eq_true i0]
      exact iteT (iteT (ds_raise (hX _) (da_cons (de_str (da_cons (de_var rfl (da_nil ⟨rfl, by decide, bad (Or.inr ⟨i, rfl, Or.inl i0⟩)⟩)))))))
    · rw [decide_eq_false i0]
      refine iteF (dt_or (dt_test (de_B0 (de_abs (de_var rfl ⟨i, rfl, de_int ⟨_, 1000000000, rfl, rfl, _, rfl, ?_⟩⟩)))))
      rw [abs_if]
      by_cases i1 : i.natAbs ≤ 1000000000
      · rw [decide_eq_false (by omega)]
        refine iteF (dt_test (de_neI (de_call EL.no (dc_cons (de_var rfl (dc_nil ⟨i, rfl, i0, i1, fun s hs => de_var rfl ⟨_, i, rfl, rfl, _, rfl, ?_⟩⟩))))))
        rcases q with ⟨j, e, hF, _, q⟩ | ⟨hb, q⟩
        · cases e
          obtain ⟨_, s', hs', es⟩ := hF
          have : s = s' := hs.uniq (by omega) hs'
          subst this
          rw [decide_eq_true es]
          refine iteF (ds_next (ds_if (dt_test (de_B0 (de_abs (de_var rfl ⟨i, rfl, de_int ⟨_, 50000, rfl, rfl, _, rfl, ?_⟩⟩))))))
          rw [abs_if]
          by_cases i2 : i.natAbs ≤ 50000
          · rw [if_pos i2] at q
            rw [decide_eq_false (by omega)]
            exact iteF (ds_next q)
          · rw [if_neg i2] at q
            rw [decide_eq_true (by omega)]
            refine iteT (ds_raise (hX _) (da_cons (de_str (da_cons (de_abs (de_var rfl ⟨i, rfl, da_cons (de_int (da_nil ⟨rfl, by decide, ?_⟩))⟩))))))
            rw [abs_if]
            exact q
        · by_cases es : fuZ (sgZ i s) = i
          · rcases hb with z | ⟨j, e, z⟩
            · cases z
            · cases e
              rcases z with z | z | z
              · exact (i0 z).elim
              · omega
              · exact (z s hs es).elim
          · rw [decide_eq_false es]
            exact iteT (ds_raise (hX _) (da_cons (de_str (da_cons (de_var rfl (da_nil ⟨rfl, by decide, q⟩))))))
      · rw [decide_eq_true (by omega)]
        exact iteT (iteT (ds_raise (hX _) (da_cons (de_str (da_cons (de_var rfl (da_nil ⟨rfl, by decide, bad (Or.inr ⟨i, rfl, Or.inr (Or.inl (by omega))⟩)⟩)))))))
def F_sg : DF := fun ss R _ => ∃ r p : Nat, ss = [.sh (.int r), .sh (.int p)] ∧ 2 ≤ p ∧ r < p ∧ p ≤ 1000000000 ∧ R (.int (sg r p))
theorem ok_sign_by (T : Tx K mg a) (hS : Sy mg base a) : FnG P w K mg base true 2 a.f_sign_by a.d_sign_by (["ratio", "p"] : List Str) (fun _ => spD K F_sg) := by
  refine fn_data T.F_sign_by sc_sign_by (fun ss R X z => by obtain ⟨_, _, h, _⟩ := z; rw [h] <;> rfl) fun cdv A outer s H E pl hr => ⟨_, (pss_cons (ps_asg (pe_go (ok_pair T hS) (hr.mono (by decide)) (pl := []) (fun _ h => nomatch h) (by rfl) T.g_pair T.F_pair.kp T.b_pair lets0 (pa_cons (pv 0) pa_nil)) (pg_tup (n := 2) rfl (pgs_cons (pg_name (i := 2) sc_sign_by.nd rfl (Or.inl rfl)) (pgs_cons (pg_name (i := 3) sc_sign_by.nd rfl (Or.inl rfl)) pgs_nil))))
      (pss_cons (ps_par3 (i := 4) (j := 5) (l := 6) rfl sc_sign_by.nd rfl rfl rfl (by decide) (by decide) (by decide) rfl rfl rfl (pa_cons (pe_op op_modN (pe_op op_mulG (pv 2) (pv 3)) (pv 1)) (pa_cons (pe_op op_fdivG (pe_op op_sub (pv 1) pe_int) pe_int) (pa_cons pe_int pa_nil))) rfl)
      (pss_cons (ps_while (passes_of rfl) (pt_cmpR op_gt (pv 5) pe_int (nomark _)) (pss_cons (ps_if (pt_cmpR (op_eqG hr.hu) (pe_op op_modN (pv 5) pe_int) pe_int (nomark _)) (pss_one (ps_set (i := 6) sc_sign_by.nd rfl (Or.inl rfl) (pe_op op_modN (pe_op op_mulG (pv 6) (pv 4)) (pv 1)))) pss_nil)
      (pss_one (ps_par (i := 4) (j := 5) rfl sc_sign_by.nd rfl rfl (by decide) rfl rfl (pa_cons (pe_op op_modN (pe_op op_mulG (pv 4) (pv 4)) (pv 1)) (pa_cons (pe_op op_fdivG (pv 5) pe_int) pa_nil)) rfl))))
      (pss_one (ps_ret (pe_ifExp (pt_cmpR (op_eqG hr.hu) (pv 6) pe_int (nomark _)) pe_int (pe_un un_neg pe_int))))))), fun b ss R X h hX => ?_⟩
  obtain ⟨r, p, rfl, p2, rp, pl, q⟩ := h
  refine ds_seq (ds_asgG (de_call EL.no (dc_cons (de_var rfl (dc_nil ⟨_, r, 1, rfl, RtV.int _, dg_tup rfl rfl (dgs_cons (dg_name (dgs_cons (dg_name (dgs_nil ?_)))))⟩)))))
  refine ds_seq (ds_par3 (da_cons (de_II (de_II (de_var rfl (de_var rfl ⟨r, 1, rfl, rfl, mo (by omega) (by decide), de_var rfl ⟨_, p, rfl, rfl, by omega, da_cons (de_II (de_I0 (de_var rfl (de_int ⟨p, 1, rfl, rfl, de_int ⟨_, 2, rfl, rfl, ⟨by decide, by decide⟩, da_cons (de_int (da_nil ⟨_, _, _, rfl, ?_⟩))⟩⟩))))⟩⟩))))))
  have e1 : ((r : Int) * 1).fmod p = ((r : Nat) : Int) := by rw [Int.mul_one, fmod_nat, Nat.mod_eq_of_lt rp]
  have e2 : ((p : Int) - 1).fdiv 2 = (((p - 1) / 2 : Nat) : Int) := by
    rw [Int.fdiv_eq_ediv_of_nonneg _ (by decide)]
    omega
  rw [e1, e2]
  refine ds_seq (ds_while (fun m ρ => ∃ (g f : Nat), ρ = [.sh (.int r), .sh (.int p), .sh (.int r), .sh (.int 1), .sh (.int g), .sh (.int m), .sh (.int f)] ∧ g < p ∧ f < p ∧ (f * g ^ m) % p = r ^ ((p - 1) / 2) % p) ((p - 1) / 2) ⟨r, 1, rfl, rp, p2, by rw [Nat.one_mul]⟩ (fun m ρ h => ?_))
  obtain ⟨g, f, rfl, gp, fp, e⟩ := h
  refine dt_test (de_B0 (de_var rfl (de_int ⟨m, 0, rfl, rfl, _, rfl, ite2 (fun z => ?_) (fun z => ?_)⟩)))
  · have z' : 0 < m := by have : (m : Int) > 0 := of_decide_eq_true z; omega
    have ml : m ≤ 1000000000 ∨ 1000000000 < m := by omega
    refine ds_seq (DS.mid (mid := fun ρ => ∃ f' : Nat, ρ = [.sh (.int r), .sh (.int p), .sh (.int r), .sh (.int 1), .sh (.int g), .sh (.int m), .sh (.int f')] ∧ f' < p ∧ (f' * (g * g) ^ (m / 2)) % p = r ^ ((p - 1) / 2) % p) ?_ fun ρ h => ?_)
    · refine ds_if (dt_test (de_eqI (de_II (de_var rfl (de_int ⟨m, 2, rfl, rfl, by decide, de_int ⟨_, 1, rfl, rfl, _, rfl, ?_⟩⟩)))))
      rw [show ((m : Int)).fmod 2 = ((m % 2 : Nat) : Int) from fmod_nat m 2]
      by_cases ho : m % 2 = 1
      · rw [ho]
        refine iteT (ds_asg (de_II (de_II (de_var rfl (de_var rfl ⟨f, g, rfl, rfl, mo (by omega) (by omega), de_var rfl ⟨_, p, rfl, rfl, by omega, ?_⟩⟩)))))
        rw [← Int.natCast_mul, fmod_nat]
        refine ⟨_, rfl, Nat.mod_lt _ (by omega), ?_⟩
        rw [Nat.mod_mul_mod, ← e]
        congr 1
        have em : m = 2 * (m / 2) + 1 := by omega
        generalize m / 2 = u at em
        subst em
        rw [Nat.pow_succ, Nat.pow_mul, Nat.pow_two]
        grind
      · rw [show m % 2 = 0 by omega]
        refine iteF (ds_next ⟨f, rfl, fp, ?_⟩)
        rw [← e]
        congr 1
        have em : m = 2 * (m / 2) := by omega
        generalize m / 2 = u at em
        subst em
        rw [Nat.pow_mul, Nat.pow_two]
    obtain ⟨f', rfl, fp', e'⟩ := h
    refine ds_par (da_cons (de_II (de_II (de_var rfl (de_var rfl ⟨g, g, rfl, rfl, mo (by omega) (by omega), de_var rfl ⟨_, p, rfl, rfl, by omega, da_cons (de_II (de_var rfl (de_int ⟨m, 2, rfl, rfl, ⟨by decide, by decide⟩, da_nil ⟨_, _, rfl, m / 2, by omega, g * g % p, f', ?_, Nat.mod_lt _ (by omega), fp', ?_⟩⟩)))⟩⟩)))))
    · rw [← Int.natCast_mul, fmod_nat, show ((m : Int)).fdiv 2 = ((m / 2 : Nat) : Int) from fdiv_nat m 2] <;> rfl
    · rw [sg_step]
      exact e'
  · have z' : m = 0 := by have : ¬ (m : Int) > 0 := fun y => z (decide_eq_true y); omega
    subst z'
    rw [Nat.pow_zero, Nat.mul_one, Nat.mod_eq_of_lt fp] at e
    subst e
    unfold sg at q
    refine ds_ret (de_ite (dt_test (de_eqI (de_var rfl (de_int ⟨_, 1, rfl, rfl, _, rfl, ?_⟩)))))
    by_cases h1 : r ^ ((p - 1) / 2) % p = 1
    · rw [if_pos h1] at q
      rw [decide_eq_true (by omega)]
      exact iteT (de_int q)
    · rw [if_neg h1] at q
      rw [decide_eq_false (by omega)]
      exact iteF (de_un (de_int ⟨1, rfl, q⟩))
def F_pm : DF := fun ss R _ => ∃ (d : Int) (p : Nat), ss = [.sh (.int d), .sh (.int p)] ∧ 2 ≤ p ∧ p ≤ 1000000000 ∧ R (.int (pmk d p))
theorem ok_prime_mark (T : Tx K mg a) (hS : Sy mg base a) : FnG P w K mg base true 3 a.f_prime_mark a.d_prime_mark (["D", "p"] : List Str) (fun _ => spD K F_pm) := by
  refine fn_data T.F_prime_mark sc_prime_mark (fun ss R X z => by obtain ⟨_, _, h, _⟩ := z; rw [h] <;> rfl) fun cdv A outer s H E pl hr => ⟨_, (pss_cons (ps_if (pt_cmpR (op_eqG hr.hu) (pe_op op_modN (pv 0) (pv 1)) pe_int (nomark _)) (pss_one (ps_ret pe_int)) pss_nil)
      (pss_cons (ps_if (pt_cmpR (op_eqG hr.hu) (pv 1) pe_int (nomark _)) (pss_one (ps_ret (pe_ifExp (pt_cmpR (op_eqG hr.hu) (pe_op op_modN (pv 0) pe_int) pe_int (nomark _)) pe_int (pe_un un_neg pe_int)))) pss_nil)
      (pss_one (ps_ret (pe_go (ok_sign_by T hS) (hr.mono (by decide)) (pl := []) (fun _ h => nomatch h) (by rfl) T.g_sign_by T.F_sign_by.kp T.b_sign_by lets0 (pa_cons (pe_op op_modN (pv 0) (pv 1)) (pa_cons (pv 1) pa_nil))))))), fun b ss R X h hX => ?_⟩
  obtain ⟨d, p, rfl, p2, pl, q⟩ := h
  unfold pmk at q
  have mn : 0 ≤ d % (p : Int) := Int.emod_nonneg _ (by omega)
  have ml : d % (p : Int) < p := Int.emod_lt_of_pos _ (by omega)
  refine ds_seq (ds_if (dt_test (de_eqI (de_II (de_var rfl (de_var rfl ⟨d, p, rfl, rfl, by omega, de_int ⟨_, 0, rfl, rfl, _, rfl, ?_⟩⟩))))))
  rw [fmod_pos d (by omega)]
  by_cases h0 : d % (p : Int) = 0
  · rw [if_pos h0] at q
    rw [decide_eq_true h0]
    exact iteT (ds_ret (de_int q))
  rw [if_neg h0] at q
  rw [decide_eq_false h0]
  refine iteF (ds_next (ds_seq (ds_if (dt_test (de_eqI (de_var rfl (de_int ⟨p, 2, rfl, rfl, _, rfl, ?_⟩)))))))
  by_cases h2 : p = 2
  · rw [if_pos h2] at q
    rw [decide_eq_true (by omega)]
    refine iteT (ds_ret (de_ite (dt_test (de_eqI (de_II (de_var rfl (de_int ⟨d, 8, rfl, rfl, by decide, de_int ⟨_, 1, rfl, rfl, _, rfl, ?_⟩⟩)))))))
    rw [fmod_pos d (by decide)]
    by_cases h8 : d % 8 = 1
    · rw [if_pos h8] at q
      rw [decide_eq_true h8]
      exact iteT (de_int q)
    · rw [if_neg h8] at q
      rw [decide_eq_false h8]
      exact iteF (de_un (de_int ⟨1, rfl, q⟩))
  rw [if_neg h2] at q
  rw [decide_eq_false (by omega)]
  refine iteF (ds_next (ds_ret (de_call EL.no (dc_cons (de_II (de_var rfl (de_var rfl ⟨d, p, rfl, rfl, by omega, dc_cons (de_var rfl (dc_nil ⟨(d % (p : Int)).toNat, p, ?_, p2, by omega, pl, q⟩))⟩)))))))
  rw [fmod_pos d (by omega), Int.toNat_of_nonneg mn]
def F_mb : DF := fun ss R _ => ∃ (d : Int) (n : Nat), ss = [.sh (.int d), .sh (.int n)] ∧ 0 < n ∧ n ≤ 1000000000 ∧ R (.int (mk (pmk d) n))
theorem ok_mark_by (T : Tx K mg a) (hS : Sy mg base a) : FnG P w K mg base true 4 a.f_mark_by a.d_mark_by (["D", "number"] : List Str) (fun _ => spD K F_mb) := by
  refine fn_data T.F_mark_by sc_mark_by (fun ss R X z => by obtain ⟨_, _, h, _⟩ := z; rw [h] <;> rfl) fun cdv A outer s H E pl hr => ⟨_, (pss_cons (ps_set (i := 2) sc_mark_by.nd rfl (Or.inl rfl) pe_int)
      (pss_cons (ps_for (passes_of rfl) rfl (pi_seq (pe_go (ok_primes_of T hS) (hr.mono (by decide)) (pl := []) (fun _ h => nomatch h) (by rfl) T.g_primes_of T.F_primes_of.kp T.b_primes_of lets0 (pa_cons (pv 1) pa_nil))) (pg_name (i := 3) sc_mark_by.nd rfl (Or.inl rfl)) (pss_one (ps_while (passes_of rfl) (pt_cmpR (op_eqG hr.hu) (pe_op op_modN (pv 1) (pv 3)) pe_int (nomark _)) (pss_one (ps_par (i := 1) (j := 2) rfl sc_mark_by.nd rfl rfl (by decide) rfl rfl (pa_cons (pe_op op_fdivG (pv 1) (pv 3)) (pa_cons (pe_op op_mulG (pv 2) (pe_go (ok_prime_mark T hS) (hr.mono (by decide)) (pl := []) (fun _ h => nomatch h) (by rfl) T.g_prime_mark T.F_prime_mark.kp T.b_prime_mark lets0 (pa_cons (pv 0) (pa_cons (pv 3) pa_nil)))) pa_nil)) rfl)))))
      (pss_one (ps_ret (pv 2))))), fun b ss R X h hX => ?_⟩
  obtain ⟨x, n, rfl, n0, hn, q⟩ := h
  refine ds_seq (ds_asg (de_int ?_))
  refine ds_seq (ds_forI (di_seq (Q := fun _ => True) (de_call EL.no (dc_cons (de_var rfl (dc_nil ⟨n, rfl, n0, hn, fun ps hps => ⟨lin ps, rfl, fun i ρ => ∃ (c : Nat) (f : Int) (s3 : Sl), ρ = [.sh (.int x), .sh (.int c), .sh (.int f), s3] ∧ f * mk (pmk x) c = mk (pmk x) n ∧ f.natAbs ≤ 1 ∧ Fs c (ps.drop i) ∧ c ≤ n, ⟨n, 1, _, rfl, by rw [Int.one_mul], by decide, hps, Nat.le_refl _⟩, fun i d ρ hi h => ?_, fun ρ h => ?_⟩⟩))))))
  · obtain ⟨c, f, s3, rfl, I, fl, hF, cn⟩ := h
    obtain ⟨p, rfl, hp⟩ := lin_at hi
    rw [drop_cons hp] at hF
    obtain ⟨pm, pd, c0, hsp⟩ := hF.split
    have p2 := pm.1
    have pc := Nat.le_of_dvd c0 pd
    refine dg_name (ds_while (fun m ρ => ∃ (j : Nat) (f : Int), ρ = [.sh (.int x), .sh (.int m), .sh (.int f), .sh (.int p)] ∧ c = p ^ j * m ∧ 0 < m ∧ m ≤ c ∧ f * mk (pmk x) m = mk (pmk x) n ∧ f.natAbs ≤ 1) c ⟨0, f, rfl, by simp, c0, Nat.le_refl _, I, fl⟩ (fun m ρ h => ?_))
    obtain ⟨j, f, rfl, er, r0, rc, I, fl⟩ := h
    refine dt_test (de_eqI (de_II (de_var rfl (de_var rfl ⟨m, p, rfl, rfl, by omega, de_int ⟨_, 0, rfl, rfl, _, rfl, ?_⟩⟩))))
    rw [dec_mod]
    by_cases hr : p ∣ m
    · rw [decide_eq_true hr]
      obtain ⟨t1, t2, t3⟩ := div_step (r := 0) p2 er r0 hr
      have ple := pmk_le x p
      refine iteT (ds_par (da_cons (de_II (de_var rfl (de_var rfl ⟨m, p, rfl, rfl, cdn (by omega) (by omega), ?_⟩)))))
      refine da_cons (de_II (de_var rfl (de_call EL.no (dc_cons (de_var rfl (dc_cons (de_var rfl (dc_nil ⟨x, p, rfl, p2, by omega, f, _, rfl, rfl, mo (by omega) (by omega), da_nil ⟨_, _, rfl, ?_⟩⟩))))))))
      rw [fdiv_nat]
      refine ⟨m / p, t3, j + 1, _, rfl, t1, t2, by omega, ?_, ?_⟩
      · have em : p * (m / p) = m := Nat.mul_div_cancel' hr
        rw [← I, ← em, mk_p _ pm t2, Int.mul_assoc, em]
      · rw [Int.natAbs_mul]
        have := Nat.mul_le_mul fl ple
        omega
    · rw [decide_eq_false hr]
      obtain ⟨hF', j0, _⟩ := hsp j m er hr
      exact iteF ⟨m, f, _, rfl, I, fl, hF', by omega⟩
  · obtain ⟨c, f, s3, rfl, I, fl, hF, cn⟩ := h
    rw [lin_len, List.drop_length] at hF
    have := hF.none
    subst this
    rw [mk_one, Int.mul_one] at I
    subst I
    exact ds_ret (de_var rfl q)
theorem NM.imp {a : Ad} {x : D} {X : Addr → List (Str × D) → Prop} {p q : Prop} (h : NM a x X p) (i : p → q) : NM a x X q := by
  rcases h with ⟨d, e, h1, h2, h3⟩ | h
  · refine Or.inl ⟨d, e, h1, h2, ?_⟩
    by_cases z : d.natAbs ≤ 50000
    · rw [if_pos z] at h3 ⊢; exact i h3
    · rw [if_neg z] at h3 ⊢; exact h3
  · exact Or.inr h
/-- what is asked of a number beside D -/
def MO (a : Ad) (y : D) (X : Addr → List (Str × D) → Prop) (ok : Nat → Prop) : Prop :=
  (∃ n : Nat, y = .int n ∧ 0 < n ∧ n ≤ 1000000000 ∧ ok n) ∨ ((isI y = false ∨ ∃ i : Int, y = .int i ∧ i < 1) ∧ X a.c_BadNumber [("number", y), ("what", .str "number")])
def F_mo (a : Ad) : DF := fun ss R X => ∃ x y, ss = [.sh x, .sh y] ∧ Pl x ∧ Pl y ∧ NM a x X (MO a y X fun n => ∃ d, x = .int d ∧ R (.int (mk (pmk d) n)))
theorem ok_mark_of (T : Tx K mg a) (hS : Sy mg base a) : FnG P w K mg base true 5 a.f_mark_of a.d_mark_of (["D", "number"] : List Str) (fun _ => spD K (F_mo a)) := by
  refine fn_data T.F_mark_of sc_mark_of (fun ss R X z => by obtain ⟨_, _, h, _⟩ := z; rw [h] <;> rfl) fun cdv A outer s H E pl hr => ⟨_, (pss_cons (ps_expr (pe_go (ok_need_mark T hS) (hr.mono (by decide)) (pl := []) (fun _ h => nomatch h) (by rfl) T.g_need_mark T.F_need_mark.kp T.b_need_mark (passAt (takes_of rfl rfl rfl rfl)) (pa_cons (pv 0) pa_nil)))
      (pss_cons (ps_if (PW.pt (pw_or (pt_not (pt_val (pe_go (ok_is_integer T hS) (hr.mono (by decide)) (pl := []) (fun _ h => nomatch h) (by rfl) T.g_is_integer T.F_is_integer.kp T.b_is_integer (passAt (takes_of rfl rfl rfl rfl)) (pa_cons (pv 1) pa_nil)))) (pw_or1 (pt_cmpR op_lt (pv 1) pe_int (nomark _))))) (pss_one (ps_raiseN rfl (takes_of rfl rfl rfl rfl) (pmk_oex (dvs := []) (ds := []) T.O_BadNumber T.i_BadNumber T.ti_BadNumber (in_BadNumber T) (Rm.room (k := 2) (hr.mono (by decide))) T.bi_BadNumber .nil pass0 (by rfl) T.g_BadNumber (pa_cons pe_str (pa_cons (pv 1) pa_nil))))) pss_nil)
      (pss_one (ps_ret (pe_go (ok_mark_by T hS) (hr.mono (by decide)) (pl := []) (fun _ h => nomatch h) (by rfl) T.g_mark_by T.F_mark_by.kp T.b_mark_by (passAt (takes_of rfl rfl rfl rfl)) (pa_cons (pv 0) (pa_cons (pv 1) pa_nil))))))), fun b ss R X h hX => ?_⟩
  obtain ⟨x, y, rfl, hx, hy, q⟩ := h
  refine ds_seq (ds_drop (de_call (fun Hf H σ fr => hX _ Hf H σ fr) (dc_cons (de_var rfl (dc_nil ⟨x, rfl, hx, q.imp fun qm => ?_⟩)))))
  clear q
  refine ds_seq (ds_if (dt_or (dt_not (dt_test (de_call EL.no (dc_cons (de_var rfl (dc_nil ⟨y, rfl, hy, isI y, rfl, ?_⟩))))))))
  rcases qm with ⟨n, rfl, n0, hn, d, rfl, q⟩ | ⟨hb, q⟩
  · refine iteF (dt_test (de_B0 (de_var rfl (de_int ⟨n, 1, rfl, rfl, _, rfl, ?_⟩))))
    rw [decide_eq_false (by omega)]
    exact iteF (ds_next (ds_ret (de_call EL.no (dc_cons (de_var rfl (dc_cons (de_var rfl (dc_nil ⟨d, n, rfl, n0, hn, q⟩))))))))
  · rcases hb with e | ⟨i, rfl, hi⟩
    · rw [e]
      exact iteT (iteT (ds_raise (hX _) (da_cons (de_str (da_cons (de_var rfl (da_nil ⟨rfl, by decide, q⟩)))))))
    · refine iteF (dt_test (de_B0 (de_var rfl (de_int ⟨i, 1, rfl, rfl, _, rfl, ?_⟩))))
      rw [decide_eq_true hi]
      exact iteT (ds_raise (hX _) (da_cons (de_str (da_cons (de_var rfl (da_nil ⟨rfl, by decide, q⟩))))))
end
end Law

set_option Elab.async false
set_option linter.all false
set_option maxRecDepth 100000
set_option maxHeartbeats 4000000
namespace Law
open PySem PySem.Spec PyProof.Rows L2 G
/-- a list of ints told by a function -/
def fl (g : Nat → Int) (n : Nat) : List D := (List.range n).map fun (i : Nat) => D.int (g i)
theorem fl_len {g : Nat → Int} {n : Nat} : (fl g n).length = n := by unfold fl; rw [List.length_map, List.length_range]
theorem fl_get {g : Nat → Int} {n k : Nat} (h : k < n) : (fl g n)[k]? = some (.int (g k)) := by
  unfold fl
  rw [List.getElem?_map, List.getElem?_range h] <;> rfl
theorem ixN_nt {n j : Nat} (hj : j < n) : ixN n (j : Int) = some j := by
  unfold ixN
  rw [if_pos (by omega), if_pos (by omega)]
  simp
theorem fl_at {g : Nat → Int} {n k : Nat} (h : k < n) : L2.atI (fl g n) (k : Int) = some (.int (g k)) := by
  unfold L2.atI
  rw [fl_len, ixN_nt h]
  exact fl_get h
theorem fl_set {g : Nat → Int} {n j : Nat} {v : Int} : (fl g n).set j (.int v) = fl (fun i => if i = j then v else g i) n := by
  apply List.ext_getElem?
  intro i
  rw [List.getElem?_set]
  by_cases h : i < n
  · rw [fl_get h, fl_len]
    by_cases e : j = i
    · subst e
      rw [if_pos rfl, if_pos h, fl_get h, if_pos rfl]
    · rw [if_neg e, fl_get h, if_neg (fun z => e z.symm)]
  · have o : ∀ g, (fl g n)[i]? = none := fun g => List.getElem?_eq_none (by rw [fl_len]; omega)
    rw [o, o, fl_len]
    by_cases e : j = i
    · subst e
      rw [if_pos rfl, if_neg h]
    · rw [if_neg e]
theorem fl_congr {g g' : Nat → Int} {n : Nat} (h : ∀ i, i < n → g i = g' i) : fl g n = fl g' n := by
  apply List.ext_getElem?
  intro i
  by_cases z : i < n
  · rw [fl_get z, fl_get z, h i z]
  · rw [List.getElem?_eq_none (by rw [fl_len]; omega), List.getElem?_eq_none (by rw [fl_len]; omega)]
theorem fl_zero (n : Nat) : (List.replicate n [D.int 0]).flatten = fl (fun _ => 0) n := by
  have e : (List.replicate n [D.int 0]).flatten = List.replicate n (D.int 0) := by
    induction n with
    | zero => rfl
    | succ n ih => rw [List.replicate_succ, List.flatten_cons, ih] <;> rfl
  rw [e]
  apply List.ext_getElem?
  intro i
  by_cases z : i < n
  · rw [fl_get z, List.getElem?_replicate, if_pos z]
  · rw [List.getElem?_eq_none (by rw [List.length_replicate]; omega), List.getElem?_eq_none (by rw [fl_len]; omega)]
theorem fl_start (m : Nat) : [D.int 0, D.int 1] ++ (List.replicate m [D.int 0]).flatten = fl (fun j => if j = 1 then 1 else 0) (m + 2) := by
  rw [fl_zero]
  apply List.ext_getElem?
  intro i
  match i with
  | 0 => rw [fl_get (by omega)] <;> rfl
  | 1 => rw [fl_get (by omega)] <;> rfl
  | i + 2 =>
    rw [show (([D.int 0, D.int 1] ++ fl (fun _ => 0) m)[i + 2]? = (fl (fun _ => 0) m)[i]?) from rfl]
    by_cases z : i < m
    · rw [fl_get z, fl_get (by omega), if_neg (by omega)]
    · rw [List.getElem?_eq_none (by rw [fl_len]; omega), List.getElem?_eq_none (by rw [fl_len]; omega)]
theorem mk_le {f : Nat → Int} (h : ∀ p, (f p).natAbs ≤ 1) : ∀ k n, n ≤ k → (mk f n).natAbs ≤ 1
  | 0, n, e => by
    rw [mk_lt f (by omega)] <;> decide
  | k + 1, n, e => by
    by_cases z : 2 ≤ n
    · have l := mf_lt z
      rw [mk_step f z, Int.natAbs_mul]
      have := Nat.mul_le_mul (h (mf n)) (mk_le h k (n / mf n) (by omega))
      omega
    · rw [mk_lt f z] <;> decide
theorem mk1 (d : Int) (n : Nat) : (mk (pmk d) n).natAbs ≤ 1 := mk_le (pmk_le d) n n (Nat.le_refl _)
theorem mf_le {n q : Nat} (h : 2 ≤ n) (q2 : 2 ≤ q) (hq : q ∣ n) : mf n ≤ q := by
  apply Classical.byContradiction
  intro z
  exact (mf_spec h).2.2 q q2 (by omega) hq
/-- the marks, a nought at both ends -/
def mkL (d : Int) (m i : Nat) : Int := if i = 0 ∨ i = m + 1 then 0 else mk (pmk d) i
/-- the least primes below -/
def Lst (m N : Nat) (l : Nat → Int) : Prop := ∀ j, 2 ≤ j → j ≤ m → l j = if mf j < N then (mf j : Int) else 0
theorem Lst.skip {m N : Nat} {l : Nat → Int} (h : Lst m N l) (n2 : 2 ≤ N) (hp : mf N < N) : Lst m (N + 1) l := fun j j2 jm => by
  rw [h j j2 jm]
  have ne : mf j ≠ N := fun e => by
    have a := (mf_spec n2)
    have b := (mf_spec j2).1
    rw [e] at b
    exact b.2 (mf N) a.1.1 hp a.2.1
  by_cases z : mf j < N
  · rw [if_pos z, if_pos (by omega)]
  · rw [if_neg z, if_neg (by omega)]
theorem Lst.put {m N : Nat} {l l' : Nat → Int} (h : Lst m N l) (n2 : 2 ≤ N) (hl : ∀ j, 2 ≤ j → j ≤ m → l' j = if l j = 0 ∧ N ∣ j then (N : Int) else l j) (hp : ¬ mf N < N) : Lst m (N + 1) l' := fun j j2 jm => by
  rw [hl j j2 jm, h j j2 jm]
  obtain ⟨b1, b2, b3⟩ := mf_spec j2
  have b0 := b1.1
  by_cases z : mf j < N
  · rw [if_pos z, if_neg (by omega), if_pos (by omega)]
  · rw [if_neg z]
    by_cases d : N ∣ j
    · have := mf_le j2 n2 d
      rw [if_pos ⟨rfl, d⟩, if_pos (by omega)]
      omega
    · rw [if_neg (fun x => d x.2)]
      have : mf j ≠ N := fun e => d (e ▸ b2)
      rw [if_neg (by omega)]
section
variable {P : Program} {w : World} {K : PySem.W.Frag} {mg : Str → Option Value} {base : Heap} {a : Ad}
def F_mt : DF := fun ss R _ => ∃ (d : Int) (m : Nat), ss = [.sh (.int d), .sh (.int m)] ∧ 1 ≤ m ∧ m ≤ 5000 ∧ R (.lst (fl (mkL d m) (m + 2)))
theorem ok_marks_to (T : Tx K mg a) (hS : Sy mg base a) : FnG P w K mg base true 4 a.f_marks_to a.d_marks_to (["D", "most"] : List Str) (fun _ => spD K F_mt) := by
  refine fn_data T.F_marks_to sc_marks_to (fun ss R X z => by obtain ⟨_, _, h, _⟩ := z; rw [h] <;> rfl) fun cdv A outer s H E pl hr => ⟨_, (pss_cons (ps_par (i := 2) (j := 3) rfl sc_marks_to.nd rfl rfl (by decide) rfl rfl (pa_cons (pe_op op_addG (pe_lst (pa_cons pe_int (pa_cons pe_int pa_nil))) (pe_op op_rep (pe_lst (pa_cons pe_int pa_nil)) (pv 1))) (pa_cons (pe_op op_rep (pe_lst (pa_cons pe_int pa_nil)) (pe_op op_addG (pv 1) pe_int)) pa_nil)) rfl)
      (pss_cons (ps_for (passes_of rfl) rfl (pi_range2 rfl T.n_range (pa_cons pe_int (pa_cons (pe_op op_addG (pv 1) pe_int) pa_nil))) (pg_name (i := 4) sc_marks_to.nd rfl (Or.inl rfl)) (pss_cons (ps_if (pt_cmpR (op_eqG hr.hu) (pe_ix ix_seq (pv 3) (pv 4) (fun _ _ => rfl)) pe_int (nomark _)) (pss_one (ps_for (passes_of rfl) rfl (pi_range3 rfl T.n_range (pa_cons (pv 4) (pa_cons (pe_op op_addG (pv 1) pe_int) (pa_cons (pv 4) pa_nil)))) (pg_name (i := 5) sc_marks_to.nd rfl (Or.inl rfl)) (pss_one (ps_asg (pe_ifExp (pt_cmpR (op_neG hr.hu) (pe_ix ix_seq (pv 3) (pv 5) (fun _ _ => rfl)) pe_int (nomark _)) (pe_ix ix_seq (pv 3) (pv 5) (fun _ _ => rfl)) (pv 4)) (pg_sub (pv 3) (pv 5) set_list))))) pss_nil)
      (pss_cons (ps_set (i := 6) sc_marks_to.nd rfl (Or.inl rfl) (pe_ix ix_seq (pv 3) (pv 4) (fun _ _ => rfl)))
      (pss_one (ps_asg (pe_op op_mulG (pe_go (ok_prime_mark T hS) (hr.mono (by decide)) (pl := []) (fun _ h => nomatch h) (by rfl) T.g_prime_mark T.F_prime_mark.kp T.b_prime_mark lets0 (pa_cons (pv 0) (pa_cons (pv 6) pa_nil))) (pe_ix ix_seq (pv 2) (pe_op op_fdivG (pv 4) (pv 6)) (fun _ _ => rfl))) (pg_sub (pv 2) (pv 4) set_list))))))
      (pss_one (ps_ret (pv 2))))), fun b ss R X h hX => ?_⟩
  obtain ⟨x, m, rfl, m1, m5, q⟩ := h
  refine ds_seq (ds_parOO (dn_addL (de_lst (da_cons (de_int (da_cons (de_int (da_nil ⟨by simp, de_new (dn_rep (de_lst (da_cons (de_int (da_nil ⟨by simp, de_var rfl ⟨_, m, rfl, rfl, by omega, by omega, by simp; omega, ?_⟩⟩)))))⟩))))))))
  refine ⟨_, _, rfl, rfl, by rw [Int.toNat_natCast, fl_zero, fl_len]; simp; omega, dn_rep (de_lst (da_cons (de_int (da_nil ⟨by simp, de_addI (de_var rfl (de_int ⟨m, 2, rfl, rfl, _, _, rfl, rfl, by omega, by omega, by simp; omega, ?_⟩))⟩))))⟩
  rw [Int.toNat_natCast, show ((m : Int) + 2).toNat = m + 2 by omega, fl_start, fl_zero]
  refine ds_seq (ds_forR2 (da_cons (de_int (da_cons (de_addI (de_var rfl (de_int ⟨m, 1, rfl, rfl, da_nil ⟨2, _, rfl, by decide, by decide, by omega, by omega, fun i ρ => ∃ (g l : Nat → Int) (s4 s5 s6 : Sl), ρ = [.sh (.int x), .sh (.int m), .ow (fl g (m + 2)), .ow (fl l (m + 2)), s4, s5, s6] ∧ (∀ j, j ≤ m + 1 → g j = if 1 ≤ j ∧ j < 2 + i then mk (pmk x) j else 0) ∧ Lst m (2 + i) l, ⟨_, _, _, _, _, rfl, fun j _ => ?_, fun j j2 jm => ?_⟩, fun i ρ hi h => ?_, fun ρ h => ?_⟩⟩)))))))
  · by_cases e : j = 1
    · subst e
      rw [if_pos rfl, if_pos (by omega), mk_one]
    · rw [if_neg e, if_neg (by omega)]
  · rw [if_neg (by have := (mf_spec j2).1.1; omega)]
  · obtain ⟨g, l, s4, s5, s6, rfl, hg, hl⟩ := h
    have im : 2 + i ≤ m := by omega
    rw [show (2 : Int) + (i : Int) = ((2 + i : Nat) : Int) by omega]
    generalize eN : 2 + i = N at *
    have n2 : 2 ≤ N := by omega
    obtain ⟨b1, b2, b3⟩ := mf_spec n2
    have b0 := b1.1
    have bl := Nat.le_of_dvd (by omega) b2
    refine dg_name (ds_seq (DS.mid (mid := fun ρ => ∃ (l' : Nat → Int) (s5 : Sl), ρ = [.sh (.int x), .sh (.int m), .ow (fl g (m + 2)), .ow (fl l' (m + 2)), .sh (.int N), s5, s6] ∧ Lst m (N + 1) l') ?_ fun ρ h => ?_))
    · refine ds_if (dt_test (de_eqI (de_ix_own rfl (de_var rfl ⟨N, _, rfl, fl_at (by omega), de_int ⟨_, 0, rfl, rfl, _, rfl, ?_⟩⟩))))
      rw [hl N n2 im]
      by_cases hp : mf N < N
      · rw [if_pos hp, decide_eq_false (by omega)]
        exact iteF (ds_next ⟨l, _, rfl, hl.skip n2 hp⟩)
      · rw [if_neg hp, decide_eq_true rfl]
        have cnt : (((m : Int) + 1 - N - 1) / N + 1).toNat = m / N := by
          have e1 : (m : Int) + 1 - N - 1 = ((m - N : Nat) : Int) := by omega
          rw [e1, ← Int.natCast_ediv]
          have e2 : m / N = (m - N) / N + 1 := Nat.div_eq_sub_div (by omega) im
          rw [e2]
          generalize (m - N) / N = c
          omega
        refine iteT (ds_forI (di_range3 (da_cons (de_var rfl (da_cons (de_addI (de_var rfl (de_int ⟨m, 1, rfl, rfl, da_cons (de_var rfl (da_nil ⟨N, _, N, rfl, by omega, by omega, by omega, by omega, by omega, by omega, ?_⟩))⟩))))))))
        rw [cnt]
        refine ⟨fun t ρ => ∃ (l' : Nat → Int) (s5 : Sl), ρ = [.sh (.int x), .sh (.int m), .ow (fl g (m + 2)), .ow (fl l' (m + 2)), .sh (.int N), s5, s6] ∧ ∀ j, 2 ≤ j → j ≤ m → l' j = if l j = 0 ∧ N ∣ j ∧ j ≤ N * t then (N : Int) else l j, ⟨l, _, rfl, fun j j2 jm => by rw [if_neg (by rw [Nat.mul_zero]; omega)]⟩, fun t d ρ ht h => ?_, fun ρ h => ?_⟩
        · obtain ⟨l', s5, rfl, hl'⟩ := h
          have tl : t < m / N := by
            apply Classical.byContradiction
            intro z
            rw [List.getElem?_eq_none (by rw [rngC_len]; omega)] at ht
            cases ht
          rw [rngC_at tl] at ht
          cases ht
          have km : N * (t + 1) ≤ m := Nat.le_trans (Nat.mul_le_mul_left N tl) (Nat.mul_div_le m N)
          rw [show (N : Int) + (t : Int) * N = ((N * (t + 1) : Nat) : Int) by rw [Int.natCast_mul, Int.natCast_add]; grind]
          generalize ek : N * (t + 1) = k at *
          have ek' : k = N * t + N := by rw [← ek, Nat.mul_succ]
          have k2 : 2 ≤ k := by omega
          have hk := hl' k k2 km
          rw [if_neg (by omega)] at hk
          have nxt : ∀ v : Int, v = (if l k = 0 then (N : Int) else l k) → ∃ (l'' : Nat → Int) (s5 : Sl), [Sl.sh (.int x), .sh (.int m), .ow (fl g (m + 2)), .ow ((fl l' (m + 2)).set k (.int v)), .sh (.int N), .sh (.int k), s6] = [.sh (.int x), .sh (.int m), .ow (fl g (m + 2)), .ow (fl l'' (m + 2)), .sh (.int N), s5, s6] ∧ ∀ j, 2 ≤ j → j ≤ m → l'' j = if l j = 0 ∧ N ∣ j ∧ j ≤ N * (t + 1) then (N : Int) else l j := fun v ev => by
            rw [fl_set]
            refine ⟨_, _, rfl, fun j j2 jm => ?_⟩
            rw [ek]
            by_cases e : j = k
            · subst e
              rw [if_pos rfl, ev]
              by_cases z : l j = 0
              · rw [if_pos z, if_pos ⟨z, ⟨t + 1, ek.symm⟩, Nat.le_refl _⟩]
              · rw [if_neg z, if_neg (fun y => z y.1)]
            · rw [if_neg e, hl' j j2 jm]
              have iff : (l j = 0 ∧ N ∣ j ∧ j ≤ N * t) ↔ (l j = 0 ∧ N ∣ j ∧ j ≤ k) := by
                refine ⟨fun ⟨h1, h2, h3⟩ => ⟨h1, h2, by omega⟩, fun ⟨h1, h2, h3⟩ => ⟨h1, h2, ?_⟩⟩
                obtain ⟨c, rfl⟩ := h2
                have : c < t + 1 := by
                  apply Classical.byContradiction
                  intro z
                  have := Nat.mul_le_mul_left N (show t + 1 ≤ c by omega)
                  omega
                exact Nat.mul_le_mul_left N (by omega)
              by_cases z : l j = 0 ∧ N ∣ j ∧ j ≤ k
              · rw [if_pos z, if_pos (iff.mpr z)]
              · rw [if_neg z, if_neg (fun y => z (iff.mp y))]
          refine dg_name (ds_asgG (de_ite (dt_test (de_neI (de_ix_own rfl (de_var rfl ⟨k, _, rfl, fl_at (by omega), de_int ⟨_, 0, rfl, rfl, _, rfl, ?_⟩⟩))))))
          rw [hk]
          by_cases z : l k = 0
          · rw [decide_eq_true z]
            exact iteF (de_var rfl (dg_sub rfl (de_var rfl ⟨k, k, rfl, by rw [fl_len]; exact ixN_nt (by omega), nxt N (by rw [if_pos z])⟩)))
          · rw [decide_eq_false z]
            refine iteT (de_ix_own rfl (de_var rfl ⟨k, _, rfl, fl_at (by omega), ?_⟩))
            rw [hk]
            exact dg_sub rfl (de_var rfl ⟨k, k, rfl, by rw [fl_len]; exact ixN_nt (by omega), nxt _ (by rw [if_neg z])⟩)
        · rw [rngC_len] at h
          obtain ⟨l', s5, rfl, hl'⟩ := h
          refine ⟨l', s5, rfl, hl.put n2 (fun j j2 jm => ?_) hp⟩
          rw [hl' j j2 jm]
          by_cases z : l j = 0 ∧ N ∣ j
          · obtain ⟨z1, c, rfl⟩ := z
            have : c ≤ m / N := (Nat.le_div_iff_mul_le (by omega)).mpr (by rw [Nat.mul_comm]; exact jm)
            rw [if_pos ⟨z1, ⟨c, rfl⟩, Nat.mul_le_mul_left N this⟩, if_pos ⟨z1, ⟨c, rfl⟩⟩]
          · rw [if_neg z, if_neg (fun y => z ⟨y.1, y.2.1⟩)]
    obtain ⟨l', s5, rfl, hl'⟩ := h
    have eN' : l' N = mf N := by rw [hl' N n2 im, if_pos (by omega)]
    refine ds_seq (ds_asg (de_ix_own rfl (de_var rfl ⟨N, _, rfl, fl_at (by omega), ?_⟩)))
    rw [eN']
    have dl := mf_lt n2
    have dp := mf_div n2
    have gq := hg (N / mf N) (by omega)
    rw [if_pos (by omega)] at gq
    have p1 := pmk_le x (mf N)
    have k1 := mk1 x (N / mf N)
    refine ds_asgG (de_II (de_call EL.no (dc_cons (de_var rfl (dc_cons (de_var rfl (dc_nil ⟨x, mf N, rfl, b0, by omega, de_ix_own rfl (de_II (de_var rfl (de_var rfl ⟨N, mf N, rfl, rfl, cdn (by omega) (by omega), ?_⟩)))⟩)))))))
    rw [fdiv_nat]
    refine ⟨_, _, rfl, fl_at (by omega), _, _, rfl, rfl, ?_, dg_sub rfl (de_var rfl ⟨N, N, rfl, by rw [fl_len]; exact ixN_nt (by omega), ?_⟩)⟩
    · rw [gq]
      exact mo (by omega) (by omega)
    · rw [fl_set]
      refine ⟨_, l', _, _, _, rfl, fun j jm => ?_, by rw [show 2 + (i + 1) = N + 1 by omega]; exact hl'⟩
      by_cases e : j = N
      · subst e
        rw [if_pos rfl, gq, if_pos (by omega), mk_step (pmk x) n2]
      · rw [if_neg e, hg j jm]
        by_cases z : 1 ≤ j ∧ j < N
        · rw [if_pos z, if_pos (by omega)]
        · rw [if_neg z, if_neg (by omega)]
  · obtain ⟨g, l, s4, s5, s6, rfl, hg, hl⟩ := h
    have e : fl g (m + 2) = fl (mkL x m) (m + 2) := fl_congr fun j hj => by
      rw [hg j (by omega)]
      unfold mkL
      by_cases z : j = 0 ∨ j = m + 1
      · rw [if_pos z, if_neg (by omega)]
      · rw [if_neg z, if_pos (by omega)]
    rw [e]
    exact ds_share (i := 2) (l := fl (mkL x m) (m + 2)) rfl (ds_ret (de_var rfl q))
end
end Law

set_option Elab.async false
set_option linter.all false
set_option maxRecDepth 100000
set_option maxHeartbeats 4000000
namespace Law
open PySem PySem.Spec PyProof.Rows L2 G
section
variable {P : Program} {w : World} {K : PySem.W.Frag} {mg : Str → Option Value} {base : Heap} {a : Ad}
theorem fdiv_mul {g x : Int} (hg : 0 < g) : (g * x).fdiv g = x := by
  rw [Int.fdiv_eq_ediv_of_nonneg _ (Int.le_of_lt hg)]
  exact Int.mul_ediv_cancel_left _ (by omega)
theorem low_parts {t v : Int} (hv : 0 < v) : ∃ g x y : Int, g = ((Nat.gcd t.natAbs v.natAbs : Nat) : Int) ∧ 0 < g ∧ t = g * x ∧ v = g * y ∧ 0 < y ∧ Nat.gcd x.natAbs y.natAbs = 1 := by
  have g0 : 0 < Nat.gcd t.natAbs v.natAbs := Nat.gcd_pos_of_pos_right _ (by omega)
  have h1 : ((Nat.gcd t.natAbs v.natAbs : Nat) : Int) ∣ t := Int.natAbs_dvd_natAbs.mp (by rw [Int.natAbs_natCast]; exact Nat.gcd_dvd_left _ _)
  have h2 : ((Nat.gcd t.natAbs v.natAbs : Nat) : Int) ∣ v := Int.natAbs_dvd_natAbs.mp (by rw [Int.natAbs_natCast]; exact Nat.gcd_dvd_right _ _)
  obtain ⟨x, hx⟩ := h1
  obtain ⟨y, hy⟩ := h2
  refine ⟨_, x, y, rfl, by omega, hx, hy, ?_, ?_⟩
  · by_cases z : 0 < y
    · exact z
    · have : ((Nat.gcd t.natAbs v.natAbs : Nat) : Int) * y ≤ 0 := Int.mul_nonpos_of_nonneg_of_nonpos (by omega) (by omega)
      omega
  · have e1 : t.natAbs = Nat.gcd t.natAbs v.natAbs * x.natAbs := by
      have := congrArg Int.natAbs hx
      rw [Int.natAbs_mul, Int.natAbs_natCast] at this
      exact this
    have e2 : v.natAbs = Nat.gcd t.natAbs v.natAbs * y.natAbs := by
      have := congrArg Int.natAbs hy
      rw [Int.natAbs_mul, Int.natAbs_natCast] at this
      exact this
    have e3 : Nat.gcd t.natAbs v.natAbs = Nat.gcd t.natAbs v.natAbs * Nat.gcd x.natAbs y.natAbs := by
      rw [← Nat.gcd_mul_left, ← e1, ← e2]
    exact Nat.eq_of_mul_eq_mul_left g0 (by rw [Nat.mul_one]; exact e3.symm)
theorem lowZ_rt {t v : Int} (hv : 0 < v) : ∃ x y : Int, RtV (lowZ t v) x y ∧ x.natAbs ≤ t.natAbs ∧ y ≤ v ∧ t * y = x * v := by
  obtain ⟨g, x, y, eg, g0, e1, e2, y0, hc⟩ := low_parts (t := t) hv
  have eb : byZ t v = g := by
    unfold byZ
    rw [if_neg (by omega), eg]
  have d1 : t.fdiv g = x := by rw [e1]; exact fdiv_mul g0
  have d2 : v.fdiv g = y := by rw [e2]; exact fdiv_mul g0
  have yv : y ≤ v := by
    rw [e2]
    have := Int.mul_le_mul_of_nonneg_right (show 1 ≤ g by omega) (Int.le_of_lt y0)
    omega
  have xt : x.natAbs ≤ t.natAbs := by
    rw [e1, Int.natAbs_mul]
    exact Nat.le_mul_of_pos_left _ (by omega)
  have cr : t * y = x * v := by
    rw [e1, e2, Int.mul_assoc, Int.mul_comm g (x * y), Int.mul_assoc, Int.mul_comm y g]
  unfold lowZ
  rw [eb, d1, d2]
  by_cases z : v = g
  · rw [if_pos z]
    have y1 : y = 1 := by
      have : g * y = g * 1 := by rw [← e2, z, Int.mul_one]
      exact Int.eq_of_mul_eq_mul_left (by omega) this
    subst y1
    exact ⟨x, 1, .int x, xt, yv, cr⟩
  · rw [if_neg z]
    have y1 : 1 < y := by
      by_cases w : y = 1
      · rw [w, Int.mul_one] at e2
        exact (z e2).elim
      · omega
    exact ⟨x, y, .pair x y y1 hc, xt, yv, cr⟩
def ratD (x y : Int) : D := if y = 1 then .int x else .tup [.int x, .int y]
theorem lowZ_form {t v : Int} (hv : 0 < v) : ∃ g x y : Int, 0 < g ∧ t = g * x ∧ v = g * y ∧ 0 < y ∧ Nat.gcd x.natAbs y.natAbs = 1 ∧ lowZ t v = ratD x y := by
  obtain ⟨g, x, y, eg, g0, e1, e2, y0, hc⟩ := low_parts (t := t) hv
  refine ⟨g, x, y, g0, e1, e2, y0, hc, ?_⟩
  have eb : byZ t v = g := by
    unfold byZ
    rw [if_neg (by omega), eg]
  have d1 : t.fdiv g = x := by rw [e1]; exact fdiv_mul g0
  have d2 : v.fdiv g = y := by rw [e2]; exact fdiv_mul g0
  unfold lowZ ratD
  rw [eb, d1, d2]
  by_cases z : v = g
  · have y1 : y = 1 := by
      have : g * y = g * 1 := by rw [← e2, z, Int.mul_one]
      exact Int.eq_of_mul_eq_mul_left (by omega) this
    rw [if_pos z, if_pos y1]
  · have y1 : ¬ y = 1 := fun w => by
      rw [w, Int.mul_one] at e2
      exact z e2
    rw [if_neg z, if_neg y1]
theorem dvd_cop {x y y' : Int} (h : y ∣ x * y') (hc : Nat.gcd x.natAbs y.natAbs = 1) : y ∣ y' := by
  have h1 : y.natAbs ∣ x.natAbs * y'.natAbs := by
    rw [← Int.natAbs_mul]
    exact Int.natAbs_dvd_natAbs.mpr h
  have c : Nat.Coprime y.natAbs x.natAbs := (Nat.gcd_comm ..).trans hc
  exact Int.natAbs_dvd_natAbs.mp (Nat.Coprime.dvd_of_dvd_mul_left c h1)
theorem lowZ_eq {t v t' v' : Int} (hv : 0 < v) (hv' : 0 < v') (h : t * v' = t' * v) : lowZ t v = lowZ t' v' := by
  obtain ⟨g, x, y, g0, e1, e2, y0, hc, ef⟩ := lowZ_form (t := t) hv
  obtain ⟨g', x', y', g0', e1', e2', y0', hc', ef'⟩ := lowZ_form (t := t') hv'
  have hx : x * y' = x' * y := by
    have a : (g * g') * (x * y') = (g * g') * (x' * y) := by
      have a1 : t * v' = (g * g') * (x * y') := by
        rw [e1, e2', Int.mul_assoc, Int.mul_assoc, ← Int.mul_assoc x, Int.mul_comm x g', Int.mul_assoc]
      have a2 : t' * v = (g * g') * (x' * y) := by
        rw [e1', e2, Int.mul_assoc, Int.mul_comm g g', Int.mul_assoc, ← Int.mul_assoc x', Int.mul_comm x' g, Int.mul_assoc]
      rw [← a1, ← a2, h]
    have gg : g * g' ≠ 0 := Int.mul_ne_zero (by omega) (by omega)
    exact Int.eq_of_mul_eq_mul_left gg a
  have d1 : y ∣ y' := dvd_cop (x := x) ⟨x', by rw [hx, Int.mul_comm]⟩ hc
  have d2 : y' ∣ y := dvd_cop (x := x') ⟨x, by rw [← hx, Int.mul_comm]⟩ hc'
  have yy : y = y' := Int.le_antisymm (Int.le_of_dvd y0' d1) (Int.le_of_dvd y0 d2)
  subst yy
  have xx : x = x' := Int.eq_of_mul_eq_mul_right (by omega) hx
  rw [ef, ef', xx]
end
end Law

set_option Elab.async false
set_option linter.all false
set_option maxRecDepth 100000
set_option maxHeartbeats 4000000
namespace Law
open PySem PySem.Spec PyProof.Rows L2 G
def dI : D → Int
  | .int i => i
  | _ => 0
theorem sm_list (g : Nat → Int) : ∀ n, ((List.range n).map fun i => g (i + 1)).sum = sm g n
  | 0 => rfl
  | n + 1 => by
    rw [List.range_succ, List.map_append, List.sum_append, sm_list g n]
    simp [sm]
theorem sm_list0 (g : Nat → Int) : ∀ n, ((List.range (n + 1)).map g).sum = g 0 + sm g n
  | 0 => by simp [sm]
  | n + 1 => by
    rw [List.range_succ, List.map_append, List.sum_append, sm_list0 g n]
    simp [sm]
    omega
theorem sm_congr {g h : Nat → Int} : ∀ n, (∀ a, 1 ≤ a → a ≤ n → g a = h a) → sm g n = sm h n
  | 0, _ => rfl
  | n + 1, e => by
    unfold sm
    rw [sm_congr n fun a h1 h2 => e a h1 (by omega), e (n + 1) (by omega) (by omega)]
theorem sm_le {g : Nat → Int} {B : Nat} : ∀ n, (∀ a, 1 ≤ a → a ≤ n → (g a).natAbs ≤ B) → (sm g n).natAbs ≤ n * B
  | 0, _ => by simp [sm]
  | n + 1, e => by
    have h1 := sm_le n fun a h1 h2 => e a h1 (by omega)
    have h2 := e (n + 1) (by omega) (by omega)
    unfold sm
    rw [Nat.succ_mul]
    have := Int.natAbs_add_le (sm g n) (g (n + 1))
    omega
def gm (x : Int) (a : Nat) : Int := mk (pmk x) a
def S0 (x : Int) (n : Nat) : Int := sm (gm x) n
def S1 (x : Int) (n : Nat) : Int := sm (fun a => gm x a * a) n
def S2 (x : Int) (n : Nat) : Int := sm (fun a => gm x a * a * a) n
/-- the number behind bernoulli_by -/
def BV (x k : Int) : D := if k = 1 then lowZ (S1 x x.natAbs) x.natAbs else lowZ (6 * S2 x x.natAbs - 6 * S1 x x.natAbs * x.natAbs + S0 x x.natAbs * x.natAbs * x.natAbs) (6 * x.natAbs)
theorem gm_le (x : Int) (a : Nat) : (gm x a).natAbs ≤ 1 := mk1 x a
theorem mul_le' {a b : Int} {A B : Nat} (h : a.natAbs ≤ A) (h' : b.natAbs ≤ B) : (a * b).natAbs ≤ A * B := by
  rw [Int.natAbs_mul]; exact Nat.mul_le_mul h h'
theorem S0_le {x : Int} {n : Nat} (h : n ≤ 5000) : (S0 x n).natAbs ≤ 5000 := by
  have := sm_le (g := gm x) (B := 1) n fun a h1 h2 => gm_le x a
  unfold S0
  omega
theorem S1_le {x : Int} {n : Nat} (h : n ≤ 5000) : (S1 x n).natAbs ≤ 25000000 := by
  have := sm_le (g := fun a => gm x a * a) (B := 5000) n fun a h1 h2 => by
    have := mul_le' (b := (a : Int)) (B := 5000) (gm_le x a) (by omega)
    omega
  unfold S1
  omega
theorem S2_le {x : Int} {n : Nat} (h : n ≤ 5000) : (S2 x n).natAbs ≤ 125000000000 := by
  have := sm_le (g := fun a => gm x a * a * a) (B := 25000000) n fun a h1 h2 => by
    have := mul_le' (b := (a : Int)) (B := 5000) (mul_le' (b := (a : Int)) (B := 5000) (gm_le x a) (by omega)) (by omega)
    omega
  unfold S2
  omega
theorem lgo {x : Int} (h : x.natAbs < 1000000000000000000) : Lg 1000 x := Lg.mono (n := 60) (show x.natAbs < 2 ^ 60 by omega) (by decide)
theorem rng_map (g : Nat → Int) (f : D → D) (n : Nat) (h : ∀ i, i < n → f (.int (1 + (i : Int))) = .int (g (i + 1))) : (rngD 1 n).map f = ((List.range n).map fun i => g (i + 1)).map D.int := by
  unfold rngD
  rw [List.map_map, List.map_map]
  apply List.map_congr_left
  intro i hi
  exact h i (List.mem_range.mp hi)
theorem rng_mem {n : Nat} {d : D} (h : d ∈ rngD 1 n) : ∃ i, i < n ∧ d = .int (1 + (i : Int)) := by
  unfold rngD at h
  obtain ⟨i, hi, e⟩ := List.mem_map.mp h
  exact ⟨i, List.mem_range.mp hi, e.symm⟩
theorem lowZ_add {S2 S1 S0 n t1 b1 t2 b2 t3 b3 : Int} (hb1 : 0 < b1) (e1 : S2 * 1 * b1 = t1 * (1 * n)) (e2 : (t1 * 1 + -S1 * b1) * b2 = t2 * (b1 * 1)) (e3 : S0 * n * 1 * b3 = t3 * (1 * 6)) :
    (t2 * b3 + t3 * b2) * (6 * n) = (6 * S2 - 6 * S1 * n + S0 * n * n) * (b2 * b3) := by
  have a1 : S2 * b1 = t1 * n := by simpa using e1
  have a2 : (t1 - S1 * b1) * b2 = t2 * b1 := by
    have e : (t1 * 1 + -S1 * b1) * b2 = t2 * (b1 * 1) := e2
    rw [Int.mul_one, Int.mul_one, Int.neg_mul] at e
    exact e
  have a3 : S0 * n * b3 = 6 * t3 := by
    have e : S0 * n * 1 * b3 = t3 * (1 * 6) := e3
    rw [Int.mul_one, Int.one_mul] at e
    omega
  have : b1 * ((t2 * b3 + t3 * b2) * (6 * n)) = b1 * ((6 * S2 - 6 * S1 * n + S0 * n * n) * (b2 * b3)) := by grind
  exact Int.eq_of_mul_eq_mul_left (by omega) this
section
variable {P : Program} {w : World} {K : PySem.W.Frag} {mg : Str → Option Value} {base : Heap} {a : Ad}
theorem fl_ints (g : Nat → Int) (n : Nat) : fl g n = ((List.range n).map g).map D.int := by
  unfold fl
  rw [List.map_map] <;> rfl
def F_bb : DF := fun ss R _ => ∃ (x k : Int), ss = [.sh (.int x), .sh (.int k)] ∧ x ≠ 0 ∧ x.natAbs ≤ 5000 ∧ (k = 1 ∨ k = 2) ∧ R (BV x k)
theorem ok_bernoulli_by (T : Tx K mg a) (hS : Sy mg base a) : FnG P w K mg base true 5 a.f_bernoulli_by a.d_bernoulli_by (["D", "k"] : List Str) (fun _ => spD K F_bb) := by
  refine fn_data T.F_bernoulli_by sc_bernoulli_by (fun ss R X z => by obtain ⟨_, _, h, _⟩ := z; rw [h] <;> rfl) fun cdv A outer s H E pl hr => ⟨_, (pss_cons (ps_set (i := 2) sc_bernoulli_by.nd rfl (Or.inl rfl) (pe_callB call_absV (by rfl) T.n_abs (by decide +kernel) (pa_cons (pv 0) pa_nil)))
      (pss_cons (ps_set (i := 3) sc_bernoulli_by.nd rfl (Or.inr rfl) (pe_go (ok_marks_to T hS) (hr.mono (by decide)) (pl := []) (fun _ h => nomatch h) (by rfl) T.g_marks_to T.F_marks_to.kp T.b_marks_to lets0 (pa_cons (pv 0) (pa_cons (pv 2) pa_nil))))
      (pss_cons (ps_set (i := 4) sc_bernoulli_by.nd rfl (Or.inl rfl) (pe_callB (cr_sum rfl) (by rfl) T.n_sum PyProof.Rows.boot_sum (pa_cons (pe_lc (own := [("a", 5)]) (by rfl) sc_bernoulli_by.nd (pi_range2 rfl T.n_range (pa_cons pe_int (pa_cons (pe_op op_addG (pv 2) pe_int) pa_nil))) (blkOk_by (N := nm_bernoulli_by) (sc := defScope s_bernoulli_by) (by decide +kernel)) (fun _ _ _ _ _ => (pg_name (i := 5) sc_bernoulli_by.nd rfl (by first | exact Or.inl rfl | exact Or.inr rfl))) (fun _ _ _ _ _ => pts_nil) (fun _ _ _ _ _ => (pe_op op_mulG (pe_ix (show IxR _ (rIx K) from ix_seq) (pv 3) (pv 5) (fun _ _ => rfl)) (pv 5)))) pa_nil)))
      (pss_cons (ps_if (pt_cmpR (op_eqG hr.hu) (pv 1) pe_int (nomark _)) (pss_one (ps_ret (pe_go (ok_divided T hS) (hr.mono (by decide)) (pl := []) (fun _ h => nomatch h) (by rfl) T.g_divided T.F_divided.kp T.b_divided lets0 (pa_cons (pv 4) (pa_cons (pv 2) pa_nil))))) pss_nil)
      (pss_cons (ps_set (i := 6) sc_bernoulli_by.nd rfl (Or.inl rfl) (pe_callB (cr_sum rfl) (by rfl) T.n_sum PyProof.Rows.boot_sum (pa_cons (pe_lc (own := [("a", 5)]) (by rfl) sc_bernoulli_by.nd (pi_range2 rfl T.n_range (pa_cons pe_int (pa_cons (pe_op op_addG (pv 2) pe_int) pa_nil))) (blkOk_by (N := nm_bernoulli_by) (sc := defScope s_bernoulli_by) (by decide +kernel)) (fun _ _ _ _ _ => (pg_name (i := 5) sc_bernoulli_by.nd rfl (by first | exact Or.inl rfl | exact Or.inr rfl))) (fun _ _ _ _ _ => pts_nil) (fun _ _ _ _ _ => (pe_op op_mulG (pe_op op_mulG (pe_ix (show IxR _ (rIx K) from ix_seq) (pv 3) (pv 5) (fun _ _ => rfl)) (pv 5)) (pv 5)))) pa_nil)))
      (pss_cons (ps_set (i := 7) sc_bernoulli_by.nd rfl (Or.inl rfl) (pe_callB (cr_sum rfl) (by rfl) T.n_sum PyProof.Rows.boot_sum (pa_cons (pe_slice sl_seq (pv 3) po_none (po_some (pe_op op_addG (pv 2) pe_int))) pa_nil)))
      (pss_one (ps_ret (pe_go (ok_added T hS) (hr.mono (by decide)) (pl := []) (fun _ h => nomatch h) (by rfl) T.g_added T.F_added.kp T.b_added lets0 (pa_cons (pe_go (ok_less_by T hS) (hr.mono (by decide)) (pl := []) (fun _ h => nomatch h) (by rfl) T.g_less_by T.F_less_by.kp T.b_less_by lets0 (pa_cons (pe_go (ok_divided T hS) (hr.mono (by decide)) (pl := []) (fun _ h => nomatch h) (by rfl) T.g_divided T.F_divided.kp T.b_divided lets0 (pa_cons (pv 6) (pa_cons (pv 2) pa_nil))) (pa_cons (pv 4) pa_nil))) (pa_cons (pe_go (ok_divided T hS) (hr.mono (by decide)) (pl := []) (fun _ h => nomatch h) (by rfl) T.g_divided T.F_divided.kp T.b_divided lets0 (pa_cons (pe_op op_mulG (pv 7) (pv 2)) (pa_cons pe_int pa_nil))) pa_nil))))))))))), fun b ss R X h hX => ?_⟩
  obtain ⟨x, k, rfl, x0, x5, hk, q⟩ := h
  unfold BV at q
  refine ds_seq (ds_asg (de_abs (de_var rfl ⟨x, rfl, ?_⟩)))
  rw [abs_if]
  generalize en : x.natAbs = n at *
  have n1 : 1 ≤ n := by omega
  refine ds_seq (ds_asg (de_call EL.no (dc_cons (de_var rfl (dc_cons (de_var rfl (dc_nil ⟨x, n, rfl, n1, x5, ?_⟩)))))))
  have s1 := S1_le (x := x) x5
  have s2 := S2_le (x := x) x5
  have s0 := S0_le (x := x) x5
  refine ds_seq (ds_asg (de_sum (de_new (dn_map (fun d => .int (gm x (dI d).toNat * dI d)) (by simp) (di_range2 (da_cons (de_int (da_cons (de_addI (de_var rfl (de_int ⟨n, 1, rfl, rfl, da_nil ⟨1, _, rfl, by decide, by decide, by omega, by omega, ?_⟩⟩)))))))))))
  rw [show ((n : Int) + 1 - 1).toNat = n by omega]
  refine ⟨by rw [rngD_len]; omega, fun d hd => ?_, (List.range n).map fun i => gm x (i + 1) * ((i + 1 : Nat) : Int), ?_, ?_⟩
  · obtain ⟨i, hi, rfl⟩ := rng_mem hd
    rw [show (1 : Int) + (i : Int) = ((i + 1 : Nat) : Int) by omega]
    refine de_II (de_ix (de_var rfl (de_var rfl ⟨_, _, rfl, fl_at (g := mkL x n) (n := n + 2) (k := i + 1) (by omega), de_var rfl ⟨_, _, rfl, rfl, ?_, ?_⟩⟩)))
    · unfold mkL
      rw [if_neg (by omega)]
      have := mk1 x (i + 1)
      exact mo (by omega) (by omega)
    · unfold mkL
      rw [if_neg (by omega)]
      rfl
  · rw [rng_map (fun a => gm x a * a) _ n fun i hi => ?_]
    show D.int (gm x (1 + (i : Int)).toNat * (1 + (i : Int))) = _
    rw [show ((1 : Int) + (i : Int)).toNat = i + 1 by omega, show (1 : Int) + (i : Int) = ((i + 1 : Nat) : Int) by omega]
  rw [sm_list (fun a => gm x a * a) n]
  refine ds_seq (ds_if (dt_test (de_eqI (de_var rfl (de_int ⟨k, 1, rfl, rfl, _, rfl, ?_⟩)))))
  by_cases k1 : k = 1
  · rw [if_pos k1] at q
    rw [decide_eq_true k1]
    refine iteT (ds_ret (de_call EL.no (dc_cons (de_var rfl (dc_cons (de_var rfl (dc_nil ⟨_, _, S1 x n, 1, n, 1, rfl, ⟨.int _, .int _, lgo (by omega), lgo (by decide), lgo (by omega), lgo (by decide)⟩, by omega, ?_⟩)))))))
    rw [Int.mul_one, Int.one_mul]
    exact q
  rw [if_neg k1] at q
  rw [decide_eq_false k1]
  refine iteF (ds_next (ds_seq (ds_asg (de_sum (de_new (dn_map (fun d => .int (gm x (dI d).toNat * dI d * dI d)) (by simp) (di_range2 (da_cons (de_int (da_cons (de_addI (de_var rfl (de_int ⟨n, 1, rfl, rfl, da_nil ⟨1, _, rfl, by decide, by decide, by omega, by omega, ?_⟩⟩)))))))))))))
  rw [show ((n : Int) + 1 - 1).toNat = n by omega]
  refine ⟨by rw [rngD_len]; omega, fun d hd => ?_, (List.range n).map fun i => gm x (i + 1) * ((i + 1 : Nat) : Int) * ((i + 1 : Nat) : Int), ?_, ?_⟩
  · obtain ⟨i, hi, rfl⟩ := rng_mem hd
    rw [show (1 : Int) + (i : Int) = ((i + 1 : Nat) : Int) by omega]
    have k1 := gm_le x (i + 1)
    have k2 := mul_le' (b := ((i + 1 : Nat) : Int)) (B := 5001) k1 (by omega)
    refine de_II (de_II (de_ix (de_var rfl (de_var rfl ⟨_, _, rfl, fl_at (g := mkL x n) (n := n + 2) (k := i + 1) (by omega), de_var rfl ⟨gm x (i + 1), ((i + 1 : Nat) : Int), ?_, rfl, mo (by omega) (by omega), de_var rfl ⟨_, _, rfl, rfl, mo (by omega) (by omega), rfl⟩⟩⟩))))
    unfold mkL
    rw [if_neg (by omega)] <;> rfl
  · rw [rng_map (fun a => gm x a * a * a) _ n fun i hi => ?_]
    show D.int (gm x (1 + (i : Int)).toNat * (1 + (i : Int)) * (1 + (i : Int))) = _
    rw [show ((1 : Int) + (i : Int)).toNat = i + 1 by omega, show (1 : Int) + (i : Int) = ((i + 1 : Nat) : Int) by omega]
  rw [sm_list (fun a => gm x a * a * a) n]
  refine ds_seq (ds_asg (de_sum (de_new (dn_slice (de_var rfl (do_none (do_some (de_addI (de_var rfl (de_int ⟨n, 1, rfl, rfl, _, rfl, _, rfl, ?_⟩))))))))))
  have cut : G.cutD (fl (mkL x n) (n + 2)) none (some ((n : Int) + 1)) = fl (mkL x n) (n + 1) := by
    have h1 : HT.sIx (n + 2) (n + 2) (some ((n : Int) + 1)) = n + 1 := by
      have := HT.sIx_nat (n + 2) (n + 2) (n + 1)
      rw [Int.natCast_add] at this
      rw [show ((n : Int) + 1) = (n : Int) + ((1 : Nat) : Int) from rfl, this]
      omega
    unfold G.cutD
    rw [fl_len, h1]
    show ((fl (mkL x n) (n + 2)).drop 0).take (n + 1 - 0) = _
    rw [List.drop_zero, Nat.sub_zero]
    unfold fl
    rw [← List.map_take, List.take_range]
    congr 2
  rw [cut]
  refine ⟨_, congrArg D.lst (fl_ints _ _), ?_⟩
  rw [sm_list0, show mkL x n 0 = 0 from if_pos (Or.inl rfl), Int.zero_add, sm_congr (g := mkL x n) (h := gm x) n fun a h1 h2 => if_neg (by omega)]
  obtain ⟨t1, b1, r1, l1, m1, c1⟩ := lowZ_rt (t := S2 x n * 1) (v := 1 * (n : Int)) (by omega)
  obtain ⟨t2, b2, r2, l2, m2, c2⟩ := lowZ_rt (t := t1 * 1 + -S1 x n * b1) (v := b1 * 1) (by have := r1.pos; omega)
  obtain ⟨t3, b3, r3, l3, m3, c3⟩ := lowZ_rt (t := S0 x n * n * 1) (v := 1 * 6) (by decide)
  have p1 := r1.pos
  have p2 := r2.pos
  have p3 := r3.pos
  have i1 : (-S1 x n * b1).natAbs ≤ 25000000 * 5000 := mul_le' (by rw [Int.natAbs_neg]; exact s1) (by omega)
  have i2 : (t1 * 1 + -S1 x n * b1).natAbs ≤ 1000000000000 := by
    have := Int.natAbs_add_le (t1 * 1) (-S1 x n * b1)
    omega
  have i3 : (S0 x n * n).natAbs ≤ 5000 * 5000 := mul_le' s0 (by omega)
  have fin : lowZ (t2 * b3 + t3 * b2) (b2 * b3) = lowZ (6 * S2 x n - 6 * S1 x n * n + S0 x n * n * n) (6 * n) := lowZ_eq (Int.mul_pos p2 p3) (by omega) (lowZ_add p1 c1 c2 c3)
  refine ds_ret (de_call EL.no (dc_cons (de_call EL.no (dc_cons (de_call EL.no (dc_cons (de_var rfl (dc_cons (de_var rfl (dc_nil ⟨_, _, S2 x n, 1, n, 1, rfl, ⟨.int _, .int _, lgo (by omega), lgo (by decide), lgo (by omega), lgo (by decide)⟩, by omega, ?_⟩))))))))))
  refine dc_cons (de_var rfl (dc_nil ⟨_, _, t1, b1, S1 x n, 1, rfl, ⟨r1, .int _, lgo (by omega), lgo (by omega), lgo (by omega), lgo (by decide)⟩, ?_⟩))
  refine dc_cons (de_call EL.no (dc_cons (de_II (de_var rfl (de_var rfl ⟨S0 x n, n, rfl, rfl, mo (by omega) (by omega), dc_cons (de_int (dc_nil ⟨_, _, S0 x n * n, 1, 6, 1, rfl, ⟨.int _, .int _, lgo (by omega), lgo (by decide), lgo (by decide), lgo (by decide)⟩, by decide, ?_⟩))⟩)))))
  refine dc_nil ⟨_, _, t2, b2, t3, b3, rfl, ⟨r2, r3, lgo (by omega), lgo (by omega), lgo (by omega), lgo (by omega)⟩, ?_⟩
  show R (lowZ (t2 * b3 + t3 * b2) (b2 * b3))
  rw [fin]
  exact q
/-- what is asked of k -/
def KO (a : Ad) (y : D) (X : Addr → List (Str × D) → Prop) (ok : Int → Prop) : Prop :=
  (∃ k : Int, y = .int k ∧ (k = 1 ∨ k = 2) ∧ ok k) ∨ ((isI y = false ∨ ∃ i : Int, y = .int i ∧ i ≠ 1 ∧ i ≠ 2) ∧ X a.c_BadNumber [("number", y), ("what", .str "k")])
def F_bo (a : Ad) : DF := fun ss R X => ∃ x y, ss = [.sh x, .sh y] ∧ Pl x ∧ Pl y ∧ NM a x X (KO a y X fun k => ∃ d : Int, x = .int d ∧ d ≠ 0 ∧ d.natAbs ≤ 5000 ∧ R (BV d k))
theorem inV12 (k : Int) : inV (.int k) [.int 1, .int 2] = decide (k = 1 ∨ k = 2) := by
  show (decide ((1 : Int) = k) || (decide ((2 : Int) = k) || false)) = _
  by_cases h1 : k = 1
  · subst h1; rfl
  · by_cases h2 : k = 2
    · subst h2; rfl
    · rw [decide_eq_false (fun z => h1 z.symm), decide_eq_false (fun z => h2 z.symm), decide_eq_false (by omega)] <;> rfl
theorem ok_bernoulli_of (T : Tx K mg a) (hS : Sy mg base a) : FnG P w K mg base true 6 a.f_bernoulli_of a.d_bernoulli_of (["D", "k"] : List Str) (fun _ => spD K (F_bo a)) := by
  refine fn_data T.F_bernoulli_of sc_bernoulli_of (fun ss R X z => by obtain ⟨_, _, h, _⟩ := z; rw [h] <;> rfl) fun cdv A outer s H E pl hr => ⟨_, (pss_cons (ps_expr (pe_go (ok_need_mark T hS) (hr.mono (by decide)) (pl := []) (fun _ h => nomatch h) (by rfl) T.g_need_mark T.F_need_mark.kp T.b_need_mark (passAt (takes_of rfl rfl rfl rfl)) (pa_cons (pv 0) pa_nil)))
      (pss_cons (ps_if (PW.pt (pw_or (pt_not (pt_val (pe_go (ok_is_integer T hS) (hr.mono (by decide)) (pl := []) (fun _ h => nomatch h) (by rfl) T.g_is_integer T.F_is_integer.kp T.b_is_integer (passAt (takes_of rfl rfl rfl rfl)) (pa_cons (pv 1) pa_nil)))) (pw_or1 (pt_cmpR op_notIn_seq (pv 1) (pe_tup (pa_cons pe_int (pa_cons pe_int pa_nil))) (by rfl))))) (pss_one (ps_raiseN rfl (takes_of rfl rfl rfl rfl) (pmk_oex (dvs := []) (ds := []) T.O_BadNumber T.i_BadNumber T.ti_BadNumber (in_BadNumber T) (Rm.room (k := 2) (hr.mono (by decide))) T.bi_BadNumber .nil pass0 (by rfl) T.g_BadNumber (pa_cons pe_str (pa_cons (pv 1) pa_nil))))) pss_nil)
      (pss_one (ps_ret (pe_go (ok_bernoulli_by T hS) (hr.mono (by decide)) (pl := []) (fun _ h => nomatch h) (by rfl) T.g_bernoulli_by T.F_bernoulli_by.kp T.b_bernoulli_by (passAt (takes_of rfl rfl rfl rfl)) (pa_cons (pv 0) (pa_cons (pv 1) pa_nil))))))), fun b ss R X h hX => ?_⟩
  obtain ⟨x, y, rfl, hx, hy, q⟩ := h
  refine ds_seq (ds_drop (de_call (fun Hf H σ fr => hX _ Hf H σ fr) (dc_cons (de_var rfl (dc_nil ⟨x, rfl, hx, q.imp fun qm => ?_⟩)))))
  clear q
  refine ds_seq (ds_if (dt_or (dt_not (dt_test (de_call EL.no (dc_cons (de_var rfl (dc_nil ⟨y, rfl, hy, isI y, rfl, ?_⟩))))))))
  rcases qm with ⟨k, rfl, hk, d, rfl, d0, d5, q⟩ | ⟨hb, q⟩
  · refine iteF (dt_test (de_in (de_var rfl (de_tup (da_cons (de_int (da_cons (de_int (da_nil ⟨by simp, _, _, _, rfl, rfl, rfl, _, rfl, ?_⟩)))))))))
    rw [if_pos rfl, inV12, decide_eq_true hk]
    exact iteF (ds_next (ds_ret (de_call EL.no (dc_cons (de_var rfl (dc_cons (de_var rfl (dc_nil ⟨d, k, rfl, d0, d5, hk, q⟩))))))))
  · rcases hb with e | ⟨i, rfl, hi, hi'⟩
    · rw [e]
      exact iteT (iteT (ds_raise (hX _) (da_cons (de_str (da_cons (de_var rfl (da_nil ⟨rfl, by decide, q⟩)))))))
    · refine iteF (dt_test (de_in (de_var rfl (de_tup (da_cons (de_int (da_cons (de_int (da_nil ⟨by simp, _, _, _, rfl, rfl, rfl, _, rfl, ?_⟩)))))))))
      rw [if_pos rfl, inV12, decide_eq_false (by omega)]
      exact iteT (ds_raise (hX _) (da_cons (de_str (da_cons (de_var rfl (da_nil ⟨rfl, by decide, q⟩))))))
end
end Law

set_option Elab.async false
set_option linter.all false
set_option maxRecDepth 100000
set_option maxHeartbeats 4000000
namespace Law
open PySem PySem.Spec PyProof.Rows L2 G
theorem emod_fmod (x : Int) {p : Nat} (h : 0 < p) : x.fmod (p : Int) = x % (p : Int) := Int.fmod_eq_emod_of_nonneg _ (by omega)
theorem sq_test {x r p : Nat} (hr : r < p) : decide (((x : Int) * x - (r : Int)).fmod (p : Int) = 0) = (x * x % p == r) := by
  rw [emod_fmod _ (by omega)]
  have key : ((x : Int) * x - (r : Int)) % (p : Int) = 0 ↔ x * x % p = r := by
    rw [← Int.natCast_mul]
    constructor
    · intro h
      have := Int.emod_emod_of_dvd
      have h2 : ((x * x : Nat) : Int) % (p : Int) = (r : Int) % (p : Int) := Int.emod_eq_emod_iff_emod_sub_eq_zero.mpr h
      rw [← Int.natCast_emod, ← Int.natCast_emod, Nat.mod_eq_of_lt hr] at h2
      omega
    · intro h
      refine Int.emod_eq_emod_iff_emod_sub_eq_zero.mp ?_
      rw [← Int.natCast_emod, ← Int.natCast_emod, Nat.mod_eq_of_lt hr, h]
  by_cases z : x * x % p = r
  · rw [decide_eq_true (key.mpr z), z]; simp
  · rw [decide_eq_false (fun y => z (key.mp y))]; simp [z]
/-- the state of the law's way to the square-free part -/
structure LfI (n l k : Nat) : Prop where
  k2 : 2 ≤ k
  l0 : 0 < l
  ex : ∃ j, n = l * (j * j)
  no : ∀ m, 2 ≤ m → m < k → ¬ m * m ∣ l
theorem LfI.start {n : Nat} (h : 0 < n) : LfI n n 2 := ⟨by decide, h, ⟨1, by simp⟩, fun m h1 h2 => by omega⟩
theorem LfI.le {n l k : Nat} (h : LfI n l k) (hn : 0 < n) : l ≤ n := by
  obtain ⟨j, hj⟩ := h.ex
  have j0 : 0 < j * j := by
    rcases Nat.eq_zero_or_pos (j * j) with z | z
    · rw [z] at hj; simp at hj; omega
    · exact z
  rw [hj]
  exact Nat.le_mul_of_pos_right _ j0
theorem LfI.div {n l k : Nat} (h : LfI n l k) (hd : k * k ∣ l) : LfI n (l / (k * k)) k ∧ l / (k * k) < l := by
  obtain ⟨c, rfl⟩ := hd
  have k2 := h.k2
  have kk : 2 ≤ k * k := by have := Nat.mul_le_mul k2 k2; omega
  rw [Nat.mul_div_cancel_left _ (by omega)]
  have c0 : 0 < c := by
    rcases Nat.eq_zero_or_pos c with z | z
    · subst z; have := h.l0; simp at this
    · exact z
  refine ⟨⟨k2, c0, ?_, fun m h1 h2 h3 => h.no m h1 h2 (Nat.dvd_mul_left_of_dvd h3 _)⟩, ?_⟩
  · obtain ⟨j, hj⟩ := h.ex
    exact ⟨k * j, by rw [hj]; grind⟩
  · have := Nat.mul_le_mul_right c kk
    omega
theorem LfI.next {n l k : Nat} (h : LfI n l k) (hd : ¬ k * k ∣ l) : LfI n l (k + 1) := ⟨by have := h.k2; omega, h.l0, h.ex, fun m h1 h2 h3 => by
  by_cases e : m = k
  · subst e; exact hd h3
  · exact h.no m h1 (by omega) h3⟩
theorem LfI.end {n l k : Nat} (h : LfI n l k) (hd : l < k * k) : SqF n l := ⟨h.l0, h.ex, fun m h1 h2 => by
  by_cases e : m < k
  · exact h.no m h1 e h2
  · have := Nat.le_of_dvd h.l0 h2
    have := Nat.mul_le_mul (show k ≤ m by omega) (show k ≤ m by omega)
    omega⟩
section
variable {P : Program} {w : World} {K : PySem.W.Frag} {mg : Str → Option Value} {base : Heap} {a : Ad}
def F_sq : DF := fun ss R _ => ∃ r p : Nat, ss = [.sh (.int r), .sh (.int p)] ∧ r < p ∧ p ≤ 10000 ∧ R (.int (if sqs r p then 1 else -1))
theorem ok__law_square_sign (T : Tx K mg a) (hS : Sy mg base a) : FnG P w K mg base true 1 a.f__law_square_sign a.d__law_square_sign (["number", "p"] : List Str) (fun _ => spD K F_sq) := by
  refine fn_data T.F__law_square_sign sc__law_square_sign (fun ss R X z => by obtain ⟨_, _, h, _⟩ := z; rw [h] <;> rfl) fun cdv A outer s H E pl hr => ⟨_, (pss_one (ps_ret (pe_ifExp (pt_cmpR (op_neG hr.hu) (pe_lc (own := [("x", 2)]) (by rfl) sc__law_square_sign.nd (pi_range2 rfl T.n_range (pa_cons pe_int (pa_cons (pe_op op_addG (pe_op op_fdivG (pv 1) pe_int) pe_int) pa_nil))) (blkOk_by (N := nm__law_square_sign) (sc := defScope s__law_square_sign) (by decide +kernel)) (fun _ _ _ _ _ => (pg_name (i := 2) sc__law_square_sign.nd rfl (by first | exact Or.inl rfl | exact Or.inr rfl))) (fun _ _ _ _ _ => pts_one (pt_cmpR (show OpR _ _ (rEqG K) from op_eqG hr.hu) (pe_op op_modN (pe_callTy call_intV (by rfl) T.n_int PyProof.Rows.boot_int (pa_cons (pe_op op_sub (pe_op op_mulG (pv 2) (pv 2)) (pv 0)) pa_nil)) (pv 1)) pe_int (nomark _))) (fun _ _ _ _ _ => (pv 2))) (pe_lst pa_nil) (nomark _)) pe_int (pe_un un_neg pe_int)))), fun b ss R X h hX => ?_⟩
  obtain ⟨r, p, rfl, rp, pl, q⟩ := h
  refine ds_ret (de_ite (dt_test (de_neNil (de_new (dn_lc (di_range2 (da_cons (de_int (da_cons (de_addI (de_II (de_var rfl (de_int ⟨p, 2, rfl, rfl, ⟨by decide, by decide⟩, de_int ⟨_, 1, rfl, rfl, da_nil ⟨1, _, rfl, by decide, by decide, ?_, ?_, ?_⟩⟩⟩)))))))))))))
  · rw [show ((p : Int)).fdiv 2 = ((p / 2 : Nat) : Int) from fdiv_nat p 2]; omega
  · rw [show ((p : Int)).fdiv 2 = ((p / 2 : Nat) : Int) from fdiv_nat p 2]; omega
  rw [show ((p : Int)).fdiv 2 = ((p / 2 : Nat) : Int) from fdiv_nat p 2, show (((p / 2 : Nat) : Int) + 1 - 1).toNat = p / 2 by omega]
  refine ⟨fun k acc => acc.length ≤ k ∧ (∀ d ∈ acc, ∃ i, d = .int i) ∧ (!acc.isEmpty) = ((List.range k).any fun x => (x + 1) * (x + 1) % p == r), ⟨Nat.le_refl _, fun d h => (by cases h), rfl⟩, fun k d acc hk hacc => ?_, fun acc hacc => ?_⟩
  · have kp : k < p / 2 := by
      apply Classical.byContradiction
      intro z
      rw [List.getElem?_eq_none (by rw [rngD_len]; omega)] at hk
      cases hk
    rw [rngD_at kp] at hk
    cases hk
    obtain ⟨l1, l2, l3⟩ := hacc
    rw [show (1 : Int) + (k : Int) = ((k + 1 : Nat) : Int) by omega]
    refine dgw_name (by simp) (dt_test (de_eqI (de_II (de_intc (de_I0 (de_II (de_var rfl (de_var rfl ⟨((k + 1 : Nat) : Int), ((k + 1 : Nat) : Int), rfl, rfl, mo (by omega) (by omega), de_var rfl ⟨_, r, rfl, rfl, Or.inl ⟨_, rfl, de_var rfl ⟨_, p, rfl, rfl, by omega, de_int ⟨_, 0, rfl, rfl, _, rfl, ?_⟩⟩⟩⟩⟩))))))))
    rw [sq_test rp]
    by_cases z : ((k + 1) * (k + 1) % p == r) = true
    · rw [z]
      refine iteT (de_var rfl ⟨by omega, by rw [List.length_append]; simp; omega, fun d hd => ?_, ?_⟩)
      · rcases List.mem_append.mp hd with h | h
        · exact l2 d h
        · rw [List.mem_singleton] at h
          exact ⟨_, h⟩
      · rw [List.range_succ, List.any_append, List.any_cons, z]
        simp
    · have z' : ((k + 1) * (k + 1) % p == r) = false := by simpa using z
      rw [z']
      refine iteF ⟨by omega, l2, ?_⟩
      rw [List.range_succ, List.any_append, List.any_cons, z', l3]
      simp
  · obtain ⟨l1, l2, l3⟩ := hacc
    rw [rngD_len] at l3
    refine de_lst (da_nil ⟨by simp, acc, rfl, rfl, l2, _, rfl, ?_⟩)
    rw [l3]
    show if sqs r p = true then _ else _
    cases e : sqs r p with
    | true =>
      rw [e, if_pos rfl] at q
      exact iteT (de_int q)
    | false =>
      rw [e, if_neg (by decide)] at q
      exact iteF (de_un (de_int ⟨1, rfl, q⟩))
theorem ok__law_fundamental (T : Tx K mg a) (hS : Sy mg base a) : FnG P w K mg base true 1 a.f__law_fundamental a.d__law_fundamental (["number"] : List Str) (fun _ => spD K F_fun) := by
  refine fn_data T.F__law_fundamental sc__law_fundamental (fun ss R X z => by obtain ⟨_, h, _⟩ := z; rw [h] <;> rfl) fun cdv A outer s H E pl hr => ⟨_, (pss_cons (ps_par3 (i := 1) (j := 2) (l := 3) rfl sc__law_fundamental.nd rfl rfl rfl (by decide) (by decide) (by decide) rfl rfl rfl (pa_cons (pe_ifExp (pt_cmpR op_gt (pv 0) pe_int (nomark _)) pe_int (pe_un un_neg pe_int)) (pa_cons (pe_callB call_absV (by rfl) T.n_abs (by decide +kernel) (pa_cons (pv 0) pa_nil)) (pa_cons pe_int pa_nil))) rfl)
      (pss_cons (ps_while (passes_of rfl) (pt_cmpR op_le (pe_op op_mulG (pv 3) (pv 3)) (pv 2) (nomark _)) (pss_cons (ps_while (passes_of rfl) (pt_cmpR (op_eqG hr.hu) (pe_op op_modN (pe_callTy call_intV (by rfl) T.n_int PyProof.Rows.boot_int (pa_cons (pv 2) pa_nil)) (pe_op op_mulG (pv 3) (pv 3))) pe_int (nomark _)) (pss_one (ps_set (i := 2) sc__law_fundamental.nd rfl (Or.inl rfl) (pe_op op_fdivG (pv 2) (pe_op op_mulG (pv 3) (pv 3))))))
      (pss_one (ps_set (i := 3) sc__law_fundamental.nd rfl (Or.inl rfl) (pe_op op_addG (pv 3) pe_int)))))
      (pss_cons (ps_set (i := 2) sc__law_fundamental.nd rfl (Or.inl rfl) (pe_op op_mulG (pv 1) (pv 2)))
      (pss_one (ps_ret (pe_ifExp (pt_cmpR (op_eqG hr.hu) (pe_op op_modN (pe_callTy call_intV (by rfl) T.n_int PyProof.Rows.boot_int (pa_cons (pv 2) pa_nil)) pe_int) pe_int (nomark _)) (pv 2) (pe_op op_mulG pe_int (pv 2)))))))), fun b ss R X h hX => ?_⟩
  obtain ⟨x, rfl, x0, hx, q⟩ := h
  refine ds_seq (DS.mid (mid := fun ρ => ∃ sg : Int, (sg = if x > 0 then 1 else -1) ∧ ρ = [.sh (.int x), .sh (.int sg), .sh (.int x.natAbs), .sh (.int 2)]) ?_ fun ρ h => ?_)
  · refine ds_par3 (da_cons (de_ite (dt_test (de_B0 (de_var rfl (de_int ⟨x, 0, rfl, rfl, _, rfl, ite2 (fun z => ?_) (fun z => ?_)⟩))))))
    · refine de_int (da_cons (de_abs (de_var rfl ⟨x, rfl, da_cons (de_int (da_nil ⟨_, _, _, rfl, 1, by rw [if_pos (of_decide_eq_true z)], ?_⟩))⟩)))
      rw [abs_if] <;> rfl
    · refine de_un (de_int ⟨1, rfl, da_cons (de_abs (de_var rfl ⟨x, rfl, da_cons (de_int (da_nil ⟨_, _, _, rfl, -1, by rw [if_neg (fun y => z (decide_eq_true y))], ?_⟩))⟩))⟩)
      rw [abs_if] <;> rfl
  obtain ⟨sg, es, rfl⟩ := h
  refine ds_seq (ds_while (fun m ρ => ∃ (l k : Nat), ρ = [.sh (.int x), .sh (.int sg), .sh (.int l), .sh (.int k)] ∧ LfI x.natAbs l k ∧ k ≤ x.natAbs + 2 ∧ m = x.natAbs + 3 - k) (x.natAbs + 3 - 2) ⟨x.natAbs, 2, rfl, LfI.start (by omega), by omega, rfl⟩ (fun m ρ h => ?_))
  obtain ⟨l, k, rfl, I, kn, rfl⟩ := h
  have ln := I.le (by omega)
  have k2 := I.k2
  refine dt_test (de_B0 (de_II (de_var rfl (de_var rfl ⟨k, k, rfl, rfl, mo (by omega) (by omega), de_var rfl ⟨_, l, rfl, rfl, _, rfl, ite2 (fun z => ?_) (fun z => ?_)⟩⟩))))
  · have z' : k * k ≤ l := by
      have : (k : Int) * k ≤ l := of_decide_eq_true z
      exact_mod_cast this
    have kl : k ≤ l := Nat.le_trans (Nat.le_mul_self k) z'
    refine ds_seq (ds_while (fun m ρ => ρ = [.sh (.int x), .sh (.int sg), .sh (.int m), .sh (.int k)] ∧ LfI x.natAbs m k) l ⟨rfl, I⟩ (fun m ρ h => ?_))
    obtain ⟨rfl, I⟩ := h
    have mn := I.le (by omega)
    have kk : 0 < k * k := Nat.mul_pos (by omega) (by omega)
    refine dt_test (de_eqI (de_II (de_intc (de_var rfl (Or.inl ⟨m, rfl, de_II (de_var rfl (de_var rfl ⟨k, k, rfl, rfl, mo (by omega) (by omega), m, _, rfl, rfl, ?_, de_int ⟨_, 0, rfl, rfl, _, rfl, ?_⟩⟩))⟩)))))
    · rw [← Int.natCast_mul]; omega
    rw [← Int.natCast_mul, dec_mod]
    by_cases hd : k * k ∣ m
    · rw [decide_eq_true hd]
      obtain ⟨I', lt⟩ := I.div hd
      refine iteT (ds_asg (de_II (de_var rfl (de_II (de_var rfl (de_var rfl ⟨k, k, rfl, rfl, mo (by omega) (by omega), m, _, rfl, rfl, ?_, ?_⟩))))))
      · rw [← Int.natCast_mul]
        exact cdn kk (by omega)
      · rw [← Int.natCast_mul, fdiv_nat]
        exact ⟨m / (k * k), lt, rfl, I'⟩
    · rw [decide_eq_false hd]
      exact iteF (ds_asg (de_addI (de_var rfl (de_int ⟨k, 1, rfl, rfl, x.natAbs + 3 - (k + 1), by omega, m, k + 1, rfl, I.next hd, by omega, rfl⟩))))
  · have z' : l < k * k := by
      have : ¬ (k : Int) * k ≤ l := fun y => z (decide_eq_true y)
      have : ¬ k * k ≤ l := fun y => this (by exact_mod_cast y)
      omega
    have hs := I.end z'
    have q' := q l hs
    have se : sg * (l : Int) = sgZ x l := by
      unfold sgZ
      rw [es]
      split <;> omega
    have sl : (sgZ x l).natAbs ≤ 1000000000 := by unfold sgZ; split <;> omega
    refine ds_seq (ds_asg (de_II (de_var rfl (de_var rfl ⟨sg, l, rfl, rfl, mo (by rw [es]; split <;> decide) (by omega), ?_⟩))))
    rw [se]
    generalize sgZ x l = y at q' sl
    unfold fuZ at q'
    refine ds_ret (de_ite (dt_test (de_eqI (de_II (de_intc (de_var rfl (Or.inl ⟨y, rfl, de_int ⟨_, 4, rfl, rfl, by decide, de_int ⟨_, 1, rfl, rfl, _, rfl, ?_⟩⟩⟩)))))))
    rw [fmod_pos _ (by decide)]
    refine ite2 (fun z => ?_) (fun z => ?_)
    · rw [if_pos (of_decide_eq_true z)] at q'
      exact de_var rfl q'
    · rw [if_neg (fun y => z (decide_eq_true y))] at q'
      exact de_II (de_int (de_var rfl ⟨4, _, rfl, rfl, mo (by decide) (by omega), q'⟩))
end
end Law

set_option Elab.async false
set_option linter.all false
set_option maxRecDepth 100000
set_option maxHeartbeats 4000000
namespace Law
open PySem PySem.Spec PyProof.Rows L2 G
theorem pm_prs {p : Nat} (h : Pm p) (hl : p ≤ 1600) : p ∈ prs := by
  have := List.all_eq_true.mp chk4 p (List.mem_range.mpr (by omega))
  have p2 := h.1
  rcases Bool.or_eq_true .. |>.mp this with t | t
  · rcases Bool.or_eq_true .. |>.mp t with u | u
    · have : p < 2 := Nat.blt_eq.mp u
      omega
    · obtain ⟨d, hd, e⟩ := List.any_eq_true.mp u
      obtain ⟨e1, e2⟩ := Bool.and_eq_true .. |>.mp e
      have d1 : d < p := Nat.blt_eq.mp e1
      have d2 : d ∣ p := Nat.dvd_of_mod_eq_zero (by simpa using e2)
      have d3 : 2 ≤ d := by
        simp only [List.mem_cons, List.not_mem_nil, or_false] at hd
        omega
      exact (h.2 d d3 d1 d2).elim
  · exact List.contains_iff_mem.mp t
theorem sqs_iff {r p : Nat} : sqs r p = true ↔ ∃ x, 1 ≤ x ∧ x ≤ p / 2 ∧ x * x % p = r := by
  unfold sqs
  rw [List.any_eq_true]
  constructor
  · rintro ⟨x, hx, e⟩
    have := List.mem_range.mp hx
    exact ⟨x + 1, by omega, by omega, by simpa using e⟩
  · rintro ⟨x, h1, h2, e⟩
    refine ⟨x - 1, List.mem_range.mpr (by omega), ?_⟩
    rw [show x - 1 + 1 = x by omega, e]
    simp
/-- Euler's sign is the squares' -/
theorem sg_sqs {r p : Nat} (h : Pm p) (hl : p ≤ 400) (h2 : p ≠ 2) (hr : r < p) (r0 : r ≠ 0) : sg r p = if sqs r p = true then 1 else -1 := by
  have hp := pm_prs h (by omega)
  have c7 := List.all_eq_true.mp chk7 p hp
  have c8 := List.all_eq_true.mp chk8 p hp
  have g1 : (p == 2) = false := by simpa using h2
  have g2 : Nat.blt 400 p = false := by
    cases e : Nat.blt 400 p with
    | false => rfl
    | true => have : 400 < p := Nat.blt_eq.mp e; omega
  rw [g1, g2, Bool.false_or, Bool.false_or] at c7 c8
  have c8' := List.all_eq_true.mp c8 r (List.mem_range.mpr hr)
  have g3 : (r == 0) = false := by simpa using r0
  rw [g3, Bool.false_or] at c8'
  unfold sg
  by_cases z : r ^ ((p - 1) / 2) % p = 1
  · rw [if_pos z]
    have : sqs r p = true := by
      rw [z] at c8'
      rcases Bool.or_eq_true .. |>.mp c8' with t | t
      · rcases Bool.or_eq_true .. |>.mp t with u | u
        · cases u
        · obtain ⟨u1, u3⟩ := Bool.and_eq_true .. |>.mp u
          obtain ⟨u1, u2⟩ := Bool.and_eq_true .. |>.mp u1
          exact sqs_iff.mpr ⟨rt r p, Nat.ble_eq.mp u2, Nat.ble_eq.mp u3, by simpa using u1⟩
      · exact t
    rw [if_pos this]
  · rw [if_neg z, if_neg]
    intro y
    obtain ⟨x, x1, x2, e⟩ := sqs_iff.mp y
    have := List.all_eq_true.mp c7 (x - 1) (List.mem_range.mpr (by omega))
    rw [show x - 1 + 1 = x by omega] at this
    apply z
    rw [← e, ← Nat.pow_mod]
    simpa using this
theorem chi_mod (c n : Nat) : chi c n = chi c (n % 8) := by
  unfold chi
  have e2 : n % 8 % 2 = n % 2 := by omega
  have e4 : n % 8 % 4 = n % 4 := by omega
  have e8 : n % 8 % 8 = n % 8 := by omega
  match c with
  | 0 => rfl
  | 1 => simp only [e2, e4]
  | 2 => simp only [e2, e8]
  | _ + 3 => simp only [e2, e8]
theorem chi_mul (c a b : Nat) : chi c (a * b) = chi c a * chi c b := by
  rw [chi_mod c (a * b), Nat.mul_mod, chi_mod c a, chi_mod c b]
  have ha : a % 8 < 8 := Nat.mod_lt _ (by decide)
  have hb : b % 8 < 8 := Nat.mod_lt _ (by decide)
  generalize a % 8 = x at ha
  generalize b % 8 = y at hb
  have key : ∀ c : Nat, c < 4 → ∀ x : Nat, x < 8 → ∀ y : Nat, y < 8 → chi c (x * y % 8) = chi c x * chi c y := by decide
  match c with
  | 0 => exact key 0 (by decide) x ha y hb
  | 1 => exact key 1 (by decide) x ha y hb
  | 2 => exact key 2 (by decide) x ha y hb
  | _ + 3 => exact key 3 (by decide) x ha y hb
theorem chi_per {c m : Nat} (h : c = 0 ∨ (c = 1 ∧ 4 ∣ m) ∨ 8 ∣ m) (n : Nat) : chi c (n + m) = chi c n := by
  rcases h with rfl | ⟨rfl, h⟩ | h
  · rfl
  · unfold chi
    have e2 : (n + m) % 2 = n % 2 := by omega
    have e4 : (n + m) % 4 = n % 4 := by omega
    simp only [e2, e4]
  · rw [chi_mod c (n + m), chi_mod c n, show (n + m) % 8 = n % 8 by omega]
/-- a prime whose rests' powers are 0, 1, -1 -/
def Gq (q : Nat) : Prop := 3 ≤ q ∧ ∀ n : Nat, n ^ ((q - 1) / 2) % q = 0 ∨ n ^ ((q - 1) / 2) % q = 1 ∨ n ^ ((q - 1) / 2) % q = q - 1
theorem gq_of {q : Nat} (h : q ∈ prs) (h3 : 3 ≤ q) (hl : q ≤ 300) : Gq q := by
  refine ⟨h3, fun n => ?_⟩
  have c := List.all_eq_true.mp chk2 q h
  have g1 : (q == 2) = false := by
    have : q ≠ 2 := by omega
    simpa using this
  have g2 : Nat.blt 300 q = false := by
    cases e : Nat.blt 300 q with
    | false => rfl
    | true => have : 300 < q := Nat.blt_eq.mp e; omega
  rw [g1, g2, Bool.false_or, Bool.false_or] at c
  have := List.all_eq_true.mp c (n % q) (List.mem_range.mpr (Nat.mod_lt _ (by omega)))
  simp only [Bool.or_eq_true, beq_iff_eq] at this
  rw [← Nat.pow_mod] at this
  omega
theorem leg_one {q : Nat} (h : Gq q) : leg 1 q = 1 := by
  have h3 := h.1
  unfold leg
  rw [Nat.one_pow, Nat.mod_eq_of_lt (by omega)]
  rfl
theorem leg_mul {q : Nat} (h : Gq q) (a b : Nat) : leg (a * b) q = leg a q * leg b q := by
  have h3 := h.1
  have ha := h.2 a
  have hb := h.2 b
  unfold leg
  rw [Nat.mul_pow, Nat.mul_mod]
  generalize a ^ ((q - 1) / 2) % q = x at ha
  generalize b ^ ((q - 1) / 2) % q = y at hb
  have q1 : (q - 1) * (q - 1) % q = 1 := by
    obtain ⟨k, rfl⟩ : ∃ k, q = k + 2 := ⟨q - 2, by omega⟩
    have : (k + 2 - 1) * (k + 2 - 1) = 1 + (k + 2) * k := by
      rw [show k + 2 - 1 = k + 1 by omega]; grind
    rw [this, Nat.add_mul_mod_self_left, Nat.mod_eq_of_lt (by omega)]
  have e1 : (q - 1) % q = q - 1 := Nat.mod_eq_of_lt (by omega)
  have e2 : 1 % q = 1 := Nat.mod_eq_of_lt (by omega)
  have n0 : ¬ q - 1 = 0 := by omega
  have n1 : ¬ q - 1 = 1 := by omega
  rcases ha with rfl | rfl | rfl <;> rcases hb with rfl | rfl | rfl <;> simp [e1, e2, q1, n0, n1]
theorem leg_per {q m : Nat} (h : q ∣ m) (n : Nat) : leg (n + m) q = leg n q := by
  unfold leg
  have : (n + m) ^ ((q - 1) / 2) % q = n ^ ((q - 1) / 2) % q := by
    obtain ⟨k, rfl⟩ := h
    rw [Nat.pow_mod, Nat.add_mul_mod_self_left, ← Nat.pow_mod]
  rw [this]
theorem legs_one : ∀ {qs : List Nat}, (∀ q ∈ qs, Gq q) → legs 1 qs = 1
  | [], _ => rfl
  | q :: qs, h => by
    unfold legs
    rw [leg_one (h q List.mem_cons_self), legs_one fun q hq => h q (List.mem_cons_of_mem _ hq)] <;> rfl
theorem legs_mul (a b : Nat) : ∀ {qs : List Nat}, (∀ q ∈ qs, Gq q) → legs (a * b) qs = legs a qs * legs b qs
  | [], _ => rfl
  | q :: qs, h => by
    unfold legs
    rw [leg_mul (h q List.mem_cons_self), legs_mul a b fun q hq => h q (List.mem_cons_of_mem _ hq)]
    grind
theorem legs_per {m : Nat} (n : Nat) : ∀ {qs : List Nat}, (∀ q ∈ qs, q ∣ m) → legs (n + m) qs = legs n qs
  | [], _ => rfl
  | q :: qs, h => by
    unfold legs
    rw [leg_per (h q List.mem_cons_self), legs_per n fun q hq => h q (List.mem_cons_of_mem _ hq)]
/-- what is told of each of the numbers -/
structure En (e : Int × Nat × List Nat) : Prop where
  le : e.1.natAbs ≤ 1200
  gq : ∀ q ∈ e.2.2, Gq q
  dv : ∀ q ∈ e.2.2, q ∣ e.1.natAbs
  two : e.2.1 = 0 ∨ (e.2.1 = 1 ∧ 4 ∣ e.1.natAbs) ∨ 8 ∣ e.1.natAbs
theorem en_of {e : Int × Nat × List Nat} (h : e ∈ ents) : En e := by
  have c := List.all_eq_true.mp chk3 e h
  simp only [Bool.and_eq_true, Bool.or_eq_true, beq_iff_eq, List.all_eq_true, Nat.ble_eq] at c
  obtain ⟨⟨c1, c2⟩, c3⟩ := c
  refine ⟨c1, fun q hq => ?_, fun q hq => ?_, ?_⟩
  · obtain ⟨⟨⟨d1, d2⟩, d3⟩, d4⟩ := c2 q hq
    exact gq_of (List.contains_iff_mem.mp d1) d2 d3
  · obtain ⟨⟨⟨d1, d2⟩, d3⟩, d4⟩ := c2 q hq
    exact Nat.dvd_of_mod_eq_zero d4
  · rcases c3 with (c3 | c3) | c3
    · exact Or.inl c3
    · exact Or.inr (Or.inl ⟨c3.1, Nat.dvd_of_mod_eq_zero c3.2⟩)
    · exact Or.inr (Or.inr (Nat.dvd_of_mod_eq_zero c3))
theorem mk_ev {e : Int × Nat × List Nat} (h : e ∈ ents) {n : Nat} (n0 : 0 < n) (hn : n ≤ e.1.natAbs + 400) : mk (pmk e.1) n = ev e.2.1 e.2.2 n := by
  have E := en_of h
  have le := E.le
  refine mk_of (pmk e.1) (ev e.2.1 e.2.2) ?_ (fun a b _ _ => ?_) n n (Nat.le_refl _) n0 fun p hp hd => ?_
  · unfold ev
    rw [legs_one E.gq, Int.mul_one]
    unfold chi
    split <;> rfl
  · unfold ev
    rw [chi_mul, legs_mul a b E.gq]
    grind
  · have pl := Nat.le_of_dvd n0 hd
    have c := List.all_eq_true.mp (List.all_eq_true.mp chk1 e h) p (pm_prs hp (by omega))
    rcases Bool.or_eq_true .. |>.mp c with t | t
    · have := Nat.blt_eq.mp t
      omega
    · simpa using t
/-- the round of the marks -/
theorem mk_round {e : Int × Nat × List Nat} (h : e ∈ ents) {n : Nat} (n0 : 0 < n) (hn : n ≤ 400) : mk (pmk e.1) (n + e.1.natAbs) = mk (pmk e.1) n := by
  have E := en_of h
  rw [mk_ev h (by omega) (by omega), mk_ev h n0 (by omega)]
  unfold ev
  rw [chi_per E.two, legs_per n E.dv]
theorem sm3_spec (g : Nat → Int) : ∀ (n a : Nat) (x y z : Int), (∀ i, i < n → (g (a + i)).natAbs ≤ 1) → sm3 g n a x y z = (x + sm (fun i => g (a + i - 1)) n, y + sm (fun i => g (a + i - 1) * ((a + i - 1 : Nat) : Int)) n, z + sm (fun i => g (a + i - 1) * ((a + i - 1 : Nat) : Int) * ((a + i - 1 : Nat) : Int)) n) := by
  have first : ∀ (f : Nat → Int) (n : Nat), sm f (n + 1) = f 1 + sm (fun i => f (i + 1)) n := fun f n => by
    induction n with
    | zero => simp [sm]
    | succ n ih =>
      show sm f (n + 1) + f (n + 1 + 1) = f 1 + (sm (fun i => f (i + 1)) n + f (n + 1 + 1))
      rw [ih]
      omega
  intro n
  induction n with
  | zero => intro a x y z _; simp [sm, sm3]
  | succ n ih =>
    intro a x y z h
    have h0 := h 0 (by omega)
    rw [Nat.add_zero] at h0
    have ih' := fun x y z => ih (a + 1) x y z fun i hi => by
      have := h (i + 1) (by omega)
      rwa [show a + (i + 1) = a + 1 + i by omega] at this
    have e1 : ∀ i, a + (i + 1) - 1 = a + 1 + i - 1 := fun i => by omega
    rw [first, first, first]
    simp only [e1, show a + 1 - 1 = a by omega]
    have hg : g a = 0 ∨ g a = 1 ∨ g a = -1 := by omega
    unfold sm3
    rcases hg with e | e | e
    · rw [e]
      show sm3 g n (a + 1) x y z = _
      rw [ih', Int.zero_mul, Int.zero_add, Int.zero_mul, Int.zero_add, Int.zero_add]
    · rw [e]
      show sm3 g n (a + 1) (x + 1) (y + a) (z + (a * a : Nat)) = _
      rw [ih', Int.one_mul, Int.natCast_mul]
      simp only [Prod.mk.injEq]
      refine ⟨by omega, by omega, by omega⟩
    · rw [e]
      show sm3 g n (a + 1) (x - 1) (y - a) (z - (a * a : Nat)) = _
      rw [ih', Int.natCast_mul]
      simp only [Prod.mk.injEq]
      refine ⟨by omega, by omega, by grind⟩
theorem sums {e : Int × Nat × List Nat} (h : e ∈ ents) (hl : e.1.natAbs < 400) : (S1 e.1 e.1.natAbs = 0 ↔ e.1 > 1) ∧ (6 * S2 e.1 e.1.natAbs - 6 * S1 e.1 e.1.natAbs * e.1.natAbs + S0 e.1 e.1.natAbs * e.1.natAbs * e.1.natAbs = 0 ↔ e.1 < 0) ∧ (e.1 < -4 → S1 e.1 e.1.natAbs = -(clsB e.1.natAbs (e.1.natAbs + 1) (e.1.natAbs % 2) : Int) * e.1.natAbs) := by
  have c := List.all_eq_true.mp chk6 e h
  rw [decide_eq_false (by omega), Bool.false_or] at c
  have ee : ∀ i, 1 ≤ i → i ≤ e.1.natAbs → gm e.1 i = ev e.2.1 e.2.2 i := fun i h1 h2 => mk_ev h h1 (by omega)
  unfold okS at c
  rw [sm3_spec _ _ _ _ _ _ fun i hi => by rw [← ee (1 + i) (by omega) (by omega)]; exact gm_le _ _] at c
  have e0 : sm (fun i => ev e.2.1 e.2.2 (1 + i - 1)) e.1.natAbs = S0 e.1 e.1.natAbs := sm_congr _ fun i h1 h2 => by
    rw [show 1 + i - 1 = i by omega, ee i h1 h2]
  have e1 : sm (fun i => ev e.2.1 e.2.2 (1 + i - 1) * ((1 + i - 1 : Nat) : Int)) e.1.natAbs = S1 e.1 e.1.natAbs := sm_congr _ fun i h1 h2 => by
    rw [show 1 + i - 1 = i by omega, ee i h1 h2]
  have e2 : sm (fun i => ev e.2.1 e.2.2 (1 + i - 1) * ((1 + i - 1 : Nat) : Int) * ((1 + i - 1 : Nat) : Int)) e.1.natAbs = S2 e.1 e.1.natAbs := sm_congr _ fun i h1 h2 => by
    rw [show 1 + i - 1 = i by omega, ee i h1 h2]
  rw [e0, e1, e2, Int.zero_add, Int.zero_add, Int.zero_add] at c
  simp only [Bool.and_eq_true, Bool.or_eq_true, beq_iff_eq, decide_eq_decide, decide_eq_true_eq] at c
  obtain ⟨⟨c1, c2⟩, c3⟩ := c
  refine ⟨c1, c2, fun hd => ?_⟩
  rcases c3 with c3 | c3
  · omega
  · exact c3
end Law

set_option Elab.async false
set_option linter.all false
set_option maxRecDepth 100000
set_option maxHeartbeats 4000000
namespace Law
open PySem PySem.Spec PyProof.Rows L2 G
section
variable {P : Program} {w : World} {K : PySem.W.Frag} {mg : Str → Option Value} {base : Heap} {a : Ad}
def F_lm : DF := fun ss R _ => ∃ (x : Int) (n : Nat), ss = [.sh (.int x), .sh (.int n)] ∧ 0 < n ∧ n ≤ 400 ∧ R (.int (mk (pmk x) n))
theorem ok__law_mark (T : Tx K mg a) (hS : Sy mg base a) : FnG P w K mg base true 2 a.f__law_mark a.d__law_mark (["d", "number"] : List Str) (fun _ => spD K F_lm) := by
  refine fn_data T.F__law_mark sc__law_mark (fun ss R X z => by obtain ⟨_, _, h, _⟩ := z; rw [h] <;> rfl) fun cdv A outer s H E pl hr => ⟨_, (pss_cons (ps_set (i := 2) sc__law_mark.nd rfl (Or.inl rfl) pe_int)
      (pss_cons (ps_for (passes_of rfl) rfl (pi_seq (pe_go (ok__law_primes_in T hS) (hr.mono (by decide)) (pl := []) (fun _ h => nomatch h) (by rfl) T.g__law_primes_in T.F__law_primes_in.kp T.b__law_primes_in lets0 (pa_cons (pv 1) pa_nil))) (pg_name (i := 3) sc__law_mark.nd rfl (Or.inl rfl)) (pss_one (ps_for (passes_of rfl) rfl (pi_range1 rfl T.n_range (pa_cons (pe_go (ok__law_times_in T hS) (hr.mono (by decide)) (pl := []) (fun _ h => nomatch h) (by rfl) T.g__law_times_in T.F__law_times_in.kp T.b__law_times_in lets0 (pa_cons (pv 1) (pa_cons (pv 3) pa_nil))) pa_nil)) (pg_name (i := 4) sc__law_mark.nd rfl (Or.inl rfl)) (pss_one (ps_if (pt_cmpR (op_eqG hr.hu) (pe_op op_modN (pe_callTy call_intV (by rfl) T.n_int PyProof.Rows.boot_int (pa_cons (pv 0) pa_nil)) (pv 3)) pe_int (nomark _)) (pss_one (ps_set (i := 2) sc__law_mark.nd rfl (Or.inl rfl) pe_int)) (pss_one (ps_if (pt_cmpR (op_eqG hr.hu) (pv 3) pe_int (nomark _)) (pss_one (ps_set (i := 2) sc__law_mark.nd rfl (Or.inl rfl) (pe_op op_mulG (pv 2) (pe_ifExp (pt_cmpR (op_eqG hr.hu) (pe_op op_modN (pe_callTy call_intV (by rfl) T.n_int PyProof.Rows.boot_int (pa_cons (pv 0) pa_nil)) pe_int) pe_int (nomark _)) pe_int (pe_un un_neg pe_int))))) (pss_one (ps_set (i := 2) sc__law_mark.nd rfl (Or.inl rfl) (pe_op op_mulG (pv 2) (pe_go (ok__law_square_sign T hS) (hr.mono (by decide)) (pl := []) (fun _ h => nomatch h) (by rfl) T.g__law_square_sign T.F__law_square_sign.kp T.b__law_square_sign lets0 (pa_cons (pe_op op_modN (pe_callTy call_intV (by rfl) T.n_int PyProof.Rows.boot_int (pa_cons (pv 0) pa_nil)) (pv 3)) (pa_cons (pv 3) pa_nil)))))))))))))
      (pss_one (ps_ret (pv 2))))), fun b ss R X h hX => ?_⟩
  obtain ⟨x, n, rfl, n0, hn, q⟩ := h
  refine ds_seq (ds_asg (de_int ?_))
  refine ds_seq (ds_forI (di_seq (Q := fun _ => True) (de_call EL.no (dc_cons (de_var rfl (dc_nil ⟨n, rfl, n0, by omega, fun ps hps => ⟨lin ps, rfl, fun i ρ => ∃ (u c : Nat) (f : Int) (s3 s4 : Sl), ρ = [.sh (.int x), .sh (.int n), .sh (.int f), s3, s4] ∧ n = u * c ∧ Nat.Coprime u c ∧ f * mk (pmk x) c = mk (pmk x) n ∧ f.natAbs ≤ 1 ∧ Fs c (ps.drop i), ⟨1, n, 1, _, _, rfl, by rw [Nat.one_mul], Nat.coprime_one_left _, by rw [Int.one_mul], by decide, hps⟩, fun i d ρ hi h => ?_, fun ρ h => ?_⟩⟩))))))
  · obtain ⟨u, c, f, s3, s4, rfl, en, co, I, fl, hF⟩ := h
    obtain ⟨p, rfl, hp⟩ := lin_at hi
    rw [drop_cons hp] at hF
    obtain ⟨pm, pd, c0, hsp⟩ := hF.split
    have p2 := pm.1
    have u0 : 0 < u := by
      rcases Nat.eq_zero_or_pos u with z | z
      · subst z; simp at en; omega
      · exact z
    have cn : c ≤ n := by rw [en]; exact Nat.le_mul_of_pos_left _ u0
    have pc := Nat.le_of_dvd c0 pd
    have pu : ¬ p ∣ u := fun z => by
      have : p ∣ Nat.gcd u c := Nat.dvd_gcd z pd
      rw [co] at this
      have := Nat.le_of_dvd (by decide) this
      omega
    cases hF with
    | @cons _ e m _ hp' nd m0 e0 t =>
    have e30 : e < 30 := by
      have h1 : 2 ^ e ≤ p ^ e := Nat.pow_le_pow_left p2 e
      have h2 : p ^ e ≤ p ^ e * m := Nat.le_mul_of_pos_right _ m0
      have : 2 ^ e < 2 ^ 30 := Nat.lt_of_le_of_lt (Nat.le_trans h1 (Nat.le_trans h2 (Nat.le_trans cn hn))) (by decide)
      exact (Nat.pow_lt_pow_iff_right (by decide)).mp this
    refine dg_name (ds_forR1 (da_cons (de_call EL.no (dc_cons (de_var rfl (dc_cons (de_var rfl (dc_nil ⟨n, p, rfl, by omega, by omega, by omega, fun cc mm h1 h2 => ?_⟩))))))))
    have ce : cc = e := by
      have pp : 0 < p ^ cc := Nat.pow_pos (by omega)
      have mp : 0 < mm := by
        apply Classical.byContradiction
        intro z
        have a1 : mm * (p : Int) ^ cc ≤ 0 := Int.mul_nonpos_of_nonpos_of_nonneg (by omega) (by exact_mod_cast Nat.zero_le _)
        omega
      obtain ⟨k, rfl⟩ := Int.eq_ofNat_of_zero_le (Int.le_of_lt mp)
      have hk : n = k * p ^ cc := by exact_mod_cast h1
      have nk : ¬ p ∣ k := fun z => h2 (by rw [fmod_nat, Nat.mod_eq_zero_of_dvd z] <;> rfl)
      have nm : ¬ p ∣ u * m := fun z => by
        rcases pm.eu z with y | y
        · exact pu y
        · exact nd y
      have : p ^ cc * k = p ^ e * (u * m) := by
        rw [Nat.mul_comm, ← hk, en]
        grind
      exact (pow_uniq p2 nm nk this).1
    subst ce
    refine da_nil ⟨_, rfl, by omega, by omega, fun t ρ => ∃ (f : Int) (s4 : Sl), ρ = [.sh (.int x), .sh (.int n), .sh (.int f), .sh (.int p), s4] ∧ f * mk (pmk x) (p ^ (cc - t) * m) = mk (pmk x) n ∧ f.natAbs ≤ 1, ⟨f, _, rfl, by rw [Nat.sub_zero]; exact I, fl⟩, fun t ρ ht h => ?_, fun ρ h => ?_⟩
    · obtain ⟨f, s4, rfl, I, fl⟩ := h
      rw [Int.toNat_natCast] at ht
      have ple := pmk_le x p
      have nxt : f * pmk x p * mk (pmk x) (p ^ (cc - (t + 1)) * m) = mk (pmk x) n := by
        rw [← I, show cc - t = (cc - (t + 1)) + 1 by omega, Nat.pow_succ, Nat.mul_comm (p ^ (cc - (t + 1))) p, Nat.mul_assoc, mk_p _ pm (Nat.mul_pos (Nat.pow_pos (by omega)) m0), Int.mul_assoc]
      have fl' : (f * pmk x p).natAbs ≤ 1 := by
        rw [Int.natAbs_mul]
        have := Nat.mul_le_mul fl ple
        omega
      have fin : ∀ v : Int, v = pmk x p → ∃ (f' : Int) (s4 : Sl), [Sl.sh (.int x), .sh (.int n), .sh (.int (f * v)), .sh (.int p), .sh (.int (t : Int))] = [.sh (.int x), .sh (.int n), .sh (.int f'), .sh (.int p), s4] ∧ f' * mk (pmk x) (p ^ (cc - (t + 1)) * m) = mk (pmk x) n ∧ f'.natAbs ≤ 1 := fun v ev => by
        subst ev
        exact ⟨_, _, rfl, nxt, fl'⟩
      have mn : 0 ≤ x % (p : Int) := Int.emod_nonneg _ (by omega)
      have ml : x % (p : Int) < p := Int.emod_lt_of_pos _ (by omega)
      refine dg_name (ds_if (dt_test (de_eqI (de_II (de_intc (de_var rfl (Or.inl ⟨x, rfl, de_var rfl ⟨x, p, rfl, rfl, by omega, de_int ⟨_, 0, rfl, rfl, _, rfl, ?_⟩⟩⟩)))))))
      rw [fmod_pos x (by omega)]
      by_cases h0 : x % (p : Int) = 0
      · rw [decide_eq_true h0]
        have := fin 0 (by unfold pmk; rw [if_pos h0])
        rw [Int.mul_zero] at this
        exact iteT (ds_asg (de_int this))
      rw [decide_eq_false h0]
      refine iteF (ds_if (dt_test (de_eqI (de_var rfl (de_int ⟨p, 2, rfl, rfl, _, rfl, ?_⟩)))))
      by_cases h2' : p = 2
      · rw [decide_eq_true (by omega)]
        refine iteT (ds_asg (de_II (de_var rfl (de_ite (dt_test (de_eqI (de_II (de_intc (de_var rfl (Or.inl ⟨x, rfl, de_int ⟨x, 8, rfl, rfl, by decide, de_int ⟨_, 1, rfl, rfl, _, rfl, ?_⟩⟩⟩))))))))))
        rw [fmod_pos x (by decide)]
        by_cases h8 : x % 8 = 1
        · rw [decide_eq_true h8]
          exact iteT (de_int ⟨f, 1, rfl, rfl, mo (by omega) (by decide), fin 1 (by unfold pmk; rw [if_neg h0, if_pos h2', if_pos h8])⟩)
        · rw [decide_eq_false h8]
          exact iteF (de_un (de_int ⟨1, rfl, f, -1, rfl, rfl, mo (by omega) (by decide), fin (-1) (by unfold pmk; rw [if_neg h0, if_pos h2', if_neg h8])⟩))
      rw [decide_eq_false (by omega)]
      have er : x.fmod (p : Int) = (((x % (p : Int)).toNat : Nat) : Int) := by rw [fmod_pos x (by omega), Int.toNat_of_nonneg mn]
      have sq := sg_sqs pm (by omega) h2' (r := (x % (p : Int)).toNat) (by omega) (by omega)
      refine iteF (ds_asg (de_II (de_var rfl (de_call EL.no (dc_cons (de_II (de_intc (de_var rfl (Or.inl ⟨x, rfl, de_var rfl ⟨x, p, rfl, rfl, by omega, dc_cons (de_var rfl (dc_nil ⟨(x % (p : Int)).toNat, p, by rw [er], by omega, by omega, ?_⟩))⟩⟩)))))))))
      rw [← sq]
      rw [← sq] at *
      have s1 := sg_one (x % (p : Int)).toNat p
      exact ⟨f, _, rfl, rfl, mo (by omega) (by omega), fin _ (by unfold pmk; rw [if_neg h0, if_neg h2'])⟩
    · obtain ⟨f, s4, rfl, I, fl⟩ := h
      rw [Int.toNat_natCast, Nat.sub_self, Nat.pow_zero, Nat.one_mul] at I
      refine ⟨u * p ^ cc, m, f, _, _, rfl, by rw [en, Nat.mul_assoc], ?_, I, fl, t⟩
      exact Nat.Coprime.mul_left co.coprime_mul_left_right (Nat.Coprime.pow_left _ (pm.cop nd))
  · obtain ⟨u, c, f, s3, s4, rfl, en, co, I, fl, hF⟩ := h
    rw [lin_len, List.drop_length] at hF
    have := hF.none
    subst this
    rw [mk_one, Int.mul_one] at I
    subst I
    exact ds_ret (de_var rfl q)
end
end Law

set_option Elab.async false
set_option linter.all false
set_option maxRecDepth 100000
set_option maxHeartbeats 4000000
namespace Law
open PySem PySem.Spec PyProof.Rows L2 G
theorem lg9 {x : Int} (h : x.natAbs < 1000000000000000000) : x.natAbs.log2 < 9000 := Nat.lt_of_lt_of_le (Lg.log (n := 1000) (lgo h) (by decide)) (by decide)
/-- one of the law's fundamental numbers -/
def Bas (d : Int) : Prop := ∃ e ∈ ents, e.1 = d
theorem bas_of {x : Int} (x0 : x ≠ 0) (hx : x.natAbs ≤ 300) {s : Nat} (h : SqF x.natAbs s) : Bas (fuZ (sgZ x s)) := by
  have sl := h.le (by omega)
  have s0 := h.1
  have c := List.all_eq_true.mp chk5 s (List.mem_range.mpr (by omega))
  simp only [Bool.or_eq_true, beq_iff_eq, Bool.and_eq_true] at c
  rcases c with (c | c) | ⟨c1, c2⟩
  · omega
  · obtain ⟨m, hm, e⟩ := List.any_eq_true.mp c
    have m2 : 2 ≤ m := by
      simp only [List.mem_cons, List.not_mem_nil, or_false] at hm
      omega
    exact (h.2.2 m m2 (Nat.dvd_of_mod_eq_zero (by simpa using e))).elim
  · unfold sgZ
    by_cases z : x > 0
    · rw [if_pos z]
      obtain ⟨e, he, ee⟩ := List.any_eq_true.mp c1
      exact ⟨e, he, by simpa using ee⟩
    · rw [if_neg z]
      obtain ⟨e, he, ee⟩ := List.any_eq_true.mp c2
      exact ⟨e, he, by simpa using ee⟩
theorem fl_cons (g : Nat → Int) (f : D → D) (n : Nat) (h : ∀ i, i < n → f (.int (1 + (i : Int))) = .int (g (i + 1))) : [D.int 0] ++ (rngD 1 n).map f = fl (fun i => if i = 0 then 0 else g i) (n + 1) := by
  rw [rng_map g f n h]
  apply List.ext_getElem?
  intro i
  match i with
  | 0 => rw [fl_get (by omega)] <;> rfl
  | i + 1 =>
    show (((List.range n).map fun i => g (i + 1)).map D.int)[i]? = _
    by_cases z : i < n
    · rw [fl_get (by omega), List.getElem?_map, List.getElem?_map, List.getElem?_range z] <;> rfl
    · rw [List.getElem?_eq_none (by rw [List.length_map, List.length_map, List.length_range]; omega), List.getElem?_eq_none (by rw [fl_len]; omega)]
theorem clsA_end {P b m a : Nat} (h : P < a * a) : clsA P b m a = 0 := by
  cases m with
  | zero => rfl
  | succ m => unfold clsA; rw [if_neg (by omega)]
theorem clsB_end {n m b : Nat} (h : n < 3 * b * b) : clsB n m b = 0 := by
  cases m with
  | zero => rfl
  | succ m => unfold clsB; rw [if_neg (by omega)]
section
variable {P : Program} {w : World} {K : PySem.W.Frag} {mg : Str → Option Value} {base : Heap} {a : Ad}
def F_base : DF := fun ss R _ => ss = [.pen] ∧ ∀ d, Bas d → R (.int d)
theorem ok__law_drawn_base (T : Tx K mg a) (hS : Sy mg base a) : FnG P w K mg base true 3 a.f__law_drawn_base a.d__law_drawn_base (["pen"] : List Str) (fun _ => spD K F_base) := by
  refine fn_data T.F__law_drawn_base sc__law_drawn_base (fun ss R X z => by obtain ⟨h, _⟩ := z; rw [h] <;> rfl) fun cdv A outer s H E pl hr => ⟨_, (pss_one (ps_ret (pe_go (ok__law_fundamental T hS) (hr.mono (by decide)) (pl := []) (fun _ h => nomatch h) (by rfl) T.g__law_fundamental T.F__law_fundamental.kp T.b__law_fundamental lets0 (pa_cons (pe_op op_mulG (pe_go (ok__law_pick T hS) (hr.mono (by decide)) (pl := []) (fun _ h => nomatch h) (by rfl) T.g__law_pick T.F__law_pick.kp T.b__law_pick lets0 (pa_cons (pv 0) (pa_cons (pe_lst (pa_cons pe_int (pa_cons (pe_un un_neg pe_int) pa_nil))) pa_nil))) (pe_op op_addG pe_int (pe_go (ok__law_draw T hS) (hr.mono (by decide)) (pl := []) (fun _ h => nomatch h) (by rfl) T.g__law_draw T.F__law_draw.kp T.b__law_draw lets0 (pa_cons (pv 0) (pa_cons pe_int pa_nil))))) pa_nil)))), fun b ss R X h hX => ?_⟩
  obtain ⟨rfl, q⟩ := h
  have key : ∀ sg k : Int, sg = 1 ∨ sg = -1 → 0 ≤ k → k < 300 → ∀ s, SqF (sg * (1 + k)).natAbs s → R (.int (fuZ (sgZ (sg * (1 + k)) s))) := fun sg k h k0 k1 s hs => by
    refine q _ (bas_of ?_ ?_ hs)
    · rcases h with rfl | rfl <;> omega
    · rcases h with rfl | rfl <;> omega
  refine ds_ret (de_call EL.no (dc_cons (de_II (de_call EL.no (dc_pen rfl (dc_cons (de_lst (da_cons (de_int (da_cons (de_un (de_int ⟨1, rfl, da_nil ⟨by simp, dc_nil ⟨_, _, rfl, rfl, (fun z => nomatch z), by simp, fun d hd => ?_⟩⟩⟩))))))))))))
  have hd' : ∃ sg : Int, d = .int sg ∧ (sg = 1 ∨ sg = -1) := by
    simp only [List.mem_cons, List.not_mem_nil, or_false] at hd
    rcases hd with rfl | rfl
    · exact ⟨_, rfl, Or.inl rfl⟩
    · exact ⟨_, rfl, Or.inr rfl⟩
  obtain ⟨sg, rfl, hsg⟩ := hd'
  refine de_addI (de_int (de_call EL.no (dc_pen rfl (dc_cons (de_int (dc_nil ⟨300, rfl, by decide, draw_ok (by decide) (by decide), fun k k0 k1 => ⟨1, k, rfl, rfl, sg, 1 + k, rfl, rfl, mo (by rcases hsg with rfl | rfl <;> decide) (by omega), dc_nil ⟨_, rfl, ?_, ?_, key sg k hsg k0 k1⟩⟩⟩))))))
  · rcases hsg with rfl | rfl <;> omega
  · rcases hsg with rfl | rfl <;> omega
def F_ls : DF := fun ss R _ => ∃ (x k : Int), ss = [.sh (.int x), .sh (.int k)] ∧ x ≠ 0 ∧ x.natAbs < 400 ∧ (k = 1 ∨ k = 2) ∧ R (BV x k)
theorem ok__law_sum (T : Tx K mg a) (hS : Sy mg base a) : FnG P w K mg base true 5 a.f__law_sum a.d__law_sum (["d", "k"] : List Str) (fun _ => spD K F_ls) := by
  refine fn_data T.F__law_sum sc__law_sum (fun ss R X z => by obtain ⟨_, _, h, _⟩ := z; rw [h] <;> rfl) fun cdv A outer s H E pl hr => ⟨_, (pss_cons (ps_set (i := 2) sc__law_sum.nd rfl (Or.inl rfl) (pe_callB call_absV (by rfl) T.n_abs (by decide +kernel) (pa_cons (pv 0) pa_nil)))
      (pss_cons (ps_set (i := 3) sc__law_sum.nd rfl (Or.inr rfl) (pe_op op_addG (pe_lst (pa_cons pe_int pa_nil)) (pe_lc (own := [("a", 4)]) (by rfl) sc__law_sum.nd (pi_range2 rfl T.n_range (pa_cons pe_int (pa_cons (pe_op op_addG (pv 2) pe_int) pa_nil))) (blkOk_by (N := nm__law_sum) (sc := defScope s__law_sum) (by decide +kernel)) (fun _ _ _ _ _ => (pg_name (i := 4) sc__law_sum.nd rfl (by first | exact Or.inl rfl | exact Or.inr rfl))) (fun _ _ _ _ _ => pts_nil) (fun _ _ _ _ _ => (pe_go (ok__law_mark T hS) (hr.mono (by decide)) (pl := []) (fun _ h => nomatch h) (by rfl) T.g__law_mark T.F__law_mark.kp T.b__law_mark lets0 (pa_cons (pv 0) (pa_cons (pv 4) pa_nil)))))))
      (pss_cons (ps_set (i := 5) sc__law_sum.nd rfl (Or.inl rfl) (pe_callB (cr_sum rfl) (by rfl) T.n_sum PyProof.Rows.boot_sum (pa_cons (pe_lc (own := [("a", 4)]) (by rfl) sc__law_sum.nd (pi_range2 rfl T.n_range (pa_cons pe_int (pa_cons (pe_op op_addG (pv 2) pe_int) pa_nil))) (blkOk_by (N := nm__law_sum) (sc := defScope s__law_sum) (by decide +kernel)) (fun _ _ _ _ _ => (pg_name (i := 4) sc__law_sum.nd rfl (by first | exact Or.inl rfl | exact Or.inr rfl))) (fun _ _ _ _ _ => pts_nil) (fun _ _ _ _ _ => (pe_op op_mulG (pe_ix (show IxR _ (rIx K) from ix_seq) (pv 3) (pv 4) (fun _ _ => rfl)) (pv 4)))) pa_nil)))
      (pss_cons (ps_if (pt_cmpR (op_eqG hr.hu) (pv 1) pe_int (nomark _)) (pss_one (ps_ret (pe_go (ok__law_low T hS) (hr.mono (by decide)) (pl := []) (fun _ h => nomatch h) (by rfl) T.g__law_low T.F__law_low.kp T.b__law_low lets0 (pa_cons (pv 5) (pa_cons (pv 2) pa_nil))))) pss_nil)
      (pss_cons (ps_set (i := 6) sc__law_sum.nd rfl (Or.inl rfl) (pe_callB (cr_sum rfl) (by rfl) T.n_sum PyProof.Rows.boot_sum (pa_cons (pe_lc (own := [("a", 4)]) (by rfl) sc__law_sum.nd (pi_range2 rfl T.n_range (pa_cons pe_int (pa_cons (pe_op op_addG (pv 2) pe_int) pa_nil))) (blkOk_by (N := nm__law_sum) (sc := defScope s__law_sum) (by decide +kernel)) (fun _ _ _ _ _ => (pg_name (i := 4) sc__law_sum.nd rfl (by first | exact Or.inl rfl | exact Or.inr rfl))) (fun _ _ _ _ _ => pts_nil) (fun _ _ _ _ _ => (pe_op op_mulG (pe_op op_mulG (pe_ix (show IxR _ (rIx K) from ix_seq) (pv 3) (pv 4) (fun _ _ => rfl)) (pv 4)) (pv 4)))) pa_nil)))
      (pss_one (ps_ret (pe_go (ok__law_plus T hS) (hr.mono (by decide)) (pl := []) (fun _ h => nomatch h) (by rfl) T.g__law_plus T.F__law_plus.kp T.b__law_plus lets0 (pa_cons (pe_go (ok__law_minus T hS) (hr.mono (by decide)) (pl := []) (fun _ h => nomatch h) (by rfl) T.g__law_minus T.F__law_minus.kp T.b__law_minus lets0 (pa_cons (pe_go (ok__law_low T hS) (hr.mono (by decide)) (pl := []) (fun _ h => nomatch h) (by rfl) T.g__law_low T.F__law_low.kp T.b__law_low lets0 (pa_cons (pv 6) (pa_cons (pv 2) pa_nil))) (pa_cons (pv 5) pa_nil))) (pa_cons (pe_go (ok__law_low T hS) (hr.mono (by decide)) (pl := []) (fun _ h => nomatch h) (by rfl) T.g__law_low T.F__law_low.kp T.b__law_low lets0 (pa_cons (pe_op op_mulG (pv 2) (pe_callB (cr_sum rfl) (by rfl) T.n_sum PyProof.Rows.boot_sum (pa_cons (pv 3) pa_nil))) (pa_cons pe_int pa_nil))) pa_nil)))))))))), fun b ss R X h hX => ?_⟩
  obtain ⟨x, k, rfl, x0, x5, hk, q⟩ := h
  unfold BV at q
  refine ds_seq (ds_asg (de_abs (de_var rfl ⟨x, rfl, ?_⟩)))
  rw [abs_if]
  generalize en : x.natAbs = n at *
  have n1 : 1 ≤ n := by omega
  have s1 := S1_le (x := x) (n := n) (by omega)
  have s2 := S2_le (x := x) (n := n) (by omega)
  have s0 := S0_le (x := x) (n := n) (by omega)
  refine ds_seq (ds_asg (de_new (dn_addL (de_lst (da_cons (de_int (da_nil ⟨by simp, ?_⟩)))))))
  refine de_new (dn_map (fun d => .int (gm x (dI d).toNat)) (by simp) (di_range2 (da_cons (de_int (da_cons (de_addI (de_var rfl (de_int ⟨n, 1, rfl, rfl, da_nil ⟨1, _, rfl, by decide, by decide, by omega, by omega, ?_⟩⟩))))))))
  rw [show ((n : Int) + 1 - 1).toNat = n by omega]
  refine ⟨by rw [rngD_len]; omega, fun d hd => ?_, _, _, rfl, rfl, by simp [rngD_len]; omega, ?_⟩
  · obtain ⟨i, hi, rfl⟩ := rng_mem hd
    rw [show (1 : Int) + (i : Int) = ((i + 1 : Nat) : Int) by omega]
    exact de_call EL.no (dc_cons (de_var rfl (dc_cons (de_var rfl (dc_nil ⟨x, i + 1, rfl, by omega, by omega, rfl⟩)))))
  rw [fl_cons (gm x) _ n fun i hi => by
    show D.int (gm x (1 + (i : Int)).toNat) = _
    rw [show ((1 : Int) + (i : Int)).toNat = i + 1 by omega]]
  have ga : ∀ i, (if i + 1 = 0 then 0 else gm x (i + 1)) = gm x (i + 1) := fun i => if_neg (by omega)
  refine ds_seq (ds_asg (de_sum (de_new (dn_map (fun d => .int (gm x (dI d).toNat * dI d)) (by simp) (di_range2 (da_cons (de_int (da_cons (de_addI (de_var rfl (de_int ⟨n, 1, rfl, rfl, da_nil ⟨1, _, rfl, by decide, by decide, by omega, by omega, ?_⟩⟩)))))))))))
  rw [show ((n : Int) + 1 - 1).toNat = n by omega]
  refine ⟨by rw [rngD_len]; omega, fun d hd => ?_, (List.range n).map fun i => gm x (i + 1) * ((i + 1 : Nat) : Int), ?_, ?_⟩
  · obtain ⟨i, hi, rfl⟩ := rng_mem hd
    rw [show (1 : Int) + (i : Int) = ((i + 1 : Nat) : Int) by omega]
    have := gm_le x (i + 1)
    exact de_II (de_ix (de_var rfl (de_var rfl ⟨_, _, rfl, fl_at (g := fun i => if i = 0 then 0 else gm x i) (n := n + 1) (k := i + 1) (by omega), de_var rfl ⟨gm x (i + 1), _, by rw [ga], rfl, mo (by omega) (by omega), rfl⟩⟩)))
  · rw [rng_map (fun a => gm x a * a) _ n fun i hi => ?_]
    show D.int (gm x (1 + (i : Int)).toNat * (1 + (i : Int))) = _
    rw [show ((1 : Int) + (i : Int)).toNat = i + 1 by omega, show (1 : Int) + (i : Int) = ((i + 1 : Nat) : Int) by omega]
  rw [sm_list (fun a => gm x a * a) n]
  refine ds_seq (ds_if (dt_test (de_eqI (de_var rfl (de_int ⟨k, 1, rfl, rfl, _, rfl, ?_⟩)))))
  by_cases k1 : k = 1
  · rw [if_pos k1] at q
    rw [decide_eq_true k1]
    exact iteT (ds_ret (de_call EL.no (dc_cons (de_var rfl (dc_cons (de_var rfl (dc_nil ⟨S1 x n, n, rfl, by omega, lg9 (by omega), q⟩)))))))
  rw [if_neg k1] at q
  rw [decide_eq_false k1]
  refine iteF (ds_next (ds_seq (ds_asg (de_sum (de_new (dn_map (fun d => .int (gm x (dI d).toNat * dI d * dI d)) (by simp) (di_range2 (da_cons (de_int (da_cons (de_addI (de_var rfl (de_int ⟨n, 1, rfl, rfl, da_nil ⟨1, _, rfl, by decide, by decide, by omega, by omega, ?_⟩⟩)))))))))))))
  rw [show ((n : Int) + 1 - 1).toNat = n by omega]
  refine ⟨by rw [rngD_len]; omega, fun d hd => ?_, (List.range n).map fun i => gm x (i + 1) * ((i + 1 : Nat) : Int) * ((i + 1 : Nat) : Int), ?_, ?_⟩
  · obtain ⟨i, hi, rfl⟩ := rng_mem hd
    rw [show (1 : Int) + (i : Int) = ((i + 1 : Nat) : Int) by omega]
    have k1 := gm_le x (i + 1)
    have k2 := mul_le' (b := ((i + 1 : Nat) : Int)) (B := 5001) k1 (by omega)
    exact de_II (de_II (de_ix (de_var rfl (de_var rfl ⟨_, _, rfl, fl_at (g := fun i => if i = 0 then 0 else gm x i) (n := n + 1) (k := i + 1) (by omega), de_var rfl ⟨gm x (i + 1), ((i + 1 : Nat) : Int), by rw [ga], rfl, mo (by omega) (by omega), de_var rfl ⟨_, _, rfl, rfl, mo (by omega) (by omega), rfl⟩⟩⟩))))
  · rw [rng_map (fun a => gm x a * a * a) _ n fun i hi => ?_]
    show D.int (gm x (1 + (i : Int)).toNat * (1 + (i : Int)) * (1 + (i : Int))) = _
    rw [show ((1 : Int) + (i : Int)).toNat = i + 1 by omega, show (1 : Int) + (i : Int) = ((i + 1 : Nat) : Int) by omega]
  rw [sm_list (fun a => gm x a * a * a) n]
  obtain ⟨t1, b1, r1, l1, m1, c1⟩ := lowZ_rt (t := S2 x n) (v := (n : Int)) (by omega)
  obtain ⟨t2, b2, r2, l2, m2, c2⟩ := lowZ_rt (t := t1 * 1 + -S1 x n * b1) (v := b1 * 1) (by have := r1.pos; omega)
  obtain ⟨t3, b3, r3, l3, m3, c3⟩ := lowZ_rt (t := (n : Int) * S0 x n) (v := 6) (by decide)
  have p1 := r1.pos
  have p2 := r2.pos
  have p3 := r3.pos
  have i1 : (-S1 x n * b1).natAbs ≤ 25000000 * 5000 := mul_le' (by rw [Int.natAbs_neg]; exact s1) (by omega)
  have i2 : (t1 * 1 + -S1 x n * b1).natAbs ≤ 1000000000000 := by
    have := Int.natAbs_add_le (t1 * 1) (-S1 x n * b1)
    omega
  have i3 : ((n : Int) * S0 x n).natAbs ≤ 5000 * 5000 := mul_le' (by omega) s0
  have fin : lowZ (t2 * b3 + t3 * b2) (b2 * b3) = lowZ (6 * S2 x n - 6 * S1 x n * n + S0 x n * n * n) (6 * n) := lowZ_eq (Int.mul_pos p2 p3) (by omega) (lowZ_add p1 (by rw [Int.mul_one, Int.one_mul]; exact c1) c2 (by rw [Int.mul_one, Int.one_mul, Int.mul_comm (S0 x n)]; exact c3))
  refine ds_ret (de_call EL.no (dc_cons (de_call EL.no (dc_cons (de_call EL.no (dc_cons (de_var rfl (dc_cons (de_var rfl (dc_nil ⟨S2 x n, n, rfl, by omega, lg9 (by omega), ?_⟩))))))))))
  refine dc_cons (de_var rfl (dc_nil ⟨_, _, t1, b1, S1 x n, 1, rfl, ⟨r1, .int _, lgo (by omega), lgo (by omega), lgo (by omega), lgo (by decide)⟩, ?_⟩))
  refine dc_cons (de_call EL.no (dc_cons (de_II (de_var rfl (de_sum (de_var rfl ⟨_, congrArg D.lst (fl_ints _ _), ?_⟩))))))
  rw [sm_list0, if_pos rfl, Int.zero_add, sm_congr (g := fun i => if i = 0 then 0 else gm x i) (h := gm x) n fun a h1 h2 => if_neg (by omega)]
  refine ⟨n, S0 x n, rfl, rfl, mo (by omega) (by omega), dc_cons (de_int (dc_nil ⟨_, 6, rfl, by decide, by decide, dc_nil ⟨_, _, t2, b2, t3, b3, rfl, ⟨r2, r3, lgo (by omega), lgo (by omega), lgo (by omega), lgo (by omega)⟩, ?_⟩⟩))⟩
  show R (lowZ (t2 * b3 + t3 * b2) (b2 * b3))
  rw [fin]
  exact q
theorem max2 (b : Nat) : (if (1 : Int) > (b : Int) then (1 : Int) else (b : Int)) = ((max b 1 : Nat) : Int) := by
  split <;> omega
/-- one of the law's steps -/
def clT (P b a : Nat) : Nat := if P % a = 0 ∧ Nat.gcd (Nat.gcd a b) (P / a) = 1 then (if b = 0 ∨ a = b ∨ a * a = P then 1 else 2) else 0
theorem clsA_step {P b m a : Nat} (h : a * a ≤ P) : clsA P b (m + 1) a = clT P b a + clsA P b m (a + 1) := by
  rw [clsA, if_pos h] <;> rfl
theorem clsB_step {n m b : Nat} (h : 3 * b * b ≤ n) : clsB n (m + 1) b = clsA ((b * b + n) / 4) b ((b * b + n) / 4 + 1) (max b 1) + clsB n m (b + 2) := by
  rw [clsB, if_pos h]
def F_cl : DF := fun ss R _ => ∃ n : Nat, ss = [.sh (.int (-(n : Int)))] ∧ 0 < n ∧ n < 400 ∧ R (.int (clsB n (n + 1) (n % 2)))
theorem ok__law_classes (T : Tx K mg a) (hS : Sy mg base a) : FnG P w K mg base true 2 a.f__law_classes a.d__law_classes (["d"] : List Str) (fun _ => spD K F_cl) := by
  refine fn_data T.F__law_classes sc__law_classes (fun ss R X z => by obtain ⟨_, h, _⟩ := z; rw [h] <;> rfl) fun cdv A outer s H E pl hr => ⟨_, (pss_cons (ps_par (i := 1) (j := 2) rfl sc__law_classes.nd rfl rfl (by decide) rfl rfl (pa_cons pe_int (pa_cons (pe_op op_modN (pe_callTy call_intV (by rfl) T.n_int PyProof.Rows.boot_int (pa_cons (pv 0) pa_nil)) pe_int) pa_nil)) rfl)
      (pss_cons (ps_while (passes_of rfl) (pt_cmpR op_le (pe_op op_mulG (pe_op op_mulG pe_int (pv 2)) (pv 2)) (pe_un un_neg (pv 0)) (nomark _)) (pss_cons (ps_par (i := 3) (j := 4) rfl sc__law_classes.nd rfl rfl (by decide) rfl rfl (pa_cons (pe_op op_fdivG (pe_op op_sub (pe_op op_mulG (pv 2) (pv 2)) (pv 0)) pe_int) (pa_cons (pe_callB (call_max2 rfl) (by rfl) T.n_max PyProof.Rows.boot_max (pa_cons (pv 2) (pa_cons pe_int pa_nil))) pa_nil)) rfl)
      (pss_cons (ps_while (passes_of rfl) (pt_cmpR op_le (pe_op op_mulG (pv 4) (pv 4)) (pv 3) (nomark _)) (pss_cons (ps_if (PW.pt (pw_and (pt_cmpR (op_eqG hr.hu) (pe_op op_modN (pe_callTy call_intV (by rfl) T.n_int PyProof.Rows.boot_int (pa_cons (pv 3) pa_nil)) (pv 4)) pe_int (nomark _)) (pw_and1 (pt_cmpR (op_eqG hr.hu) (pe_go (ok__law_divisor T hS) (hr.mono (by decide)) (pl := []) (fun _ h => nomatch h) (by rfl) T.g__law_divisor T.F__law_divisor.kp T.b__law_divisor lets0 (pa_cons (pe_go (ok__law_divisor T hS) (hr.mono (by decide)) (pl := []) (fun _ h => nomatch h) (by rfl) T.g__law_divisor T.F__law_divisor.kp T.b__law_divisor lets0 (pa_cons (pv 4) (pa_cons (pv 2) pa_nil))) (pa_cons (pe_op op_fdivG (pv 3) (pv 4)) pa_nil))) pe_int (nomark _))))) (pss_one (ps_set (i := 1) sc__law_classes.nd rfl (Or.inl rfl) (pe_op op_addG (pv 1) (pe_ifExp (PW.pt (pw_or (pt_cmpR (op_eqG hr.hu) (pv 2) pe_int (nomark _)) (pw_or (pt_cmpR (op_eqG hr.hu) (pv 4) (pv 2) (nomark _)) (pw_or1 (pt_cmpR (op_eqG hr.hu) (pe_op op_mulG (pv 4) (pv 4)) (pv 3) (nomark _)))))) pe_int pe_int)))) pss_nil)
      (pss_one (ps_set (i := 4) sc__law_classes.nd rfl (Or.inl rfl) (pe_op op_addG (pv 4) pe_int)))))
      (pss_one (ps_set (i := 2) sc__law_classes.nd rfl (Or.inl rfl) (pe_op op_addG (pv 2) pe_int))))))
      (pss_one (ps_ret (pv 1))))), fun b ss R X h hX => ?_⟩
  obtain ⟨n, rfl, n0, hn, q⟩ := h
  have e0 : (-(n : Int)).fmod 2 = ((n % 2 : Nat) : Int) := by
    rw [fmod_pos _ (by decide)]
    omega
  refine ds_seq (ds_par (da_cons (de_int (da_cons (de_II (de_intc (de_var rfl (Or.inl ⟨_, rfl, de_int ⟨_, 2, rfl, rfl, by decide, da_nil ⟨_, _, rfl, ?_⟩⟩⟩))))))))
  rw [e0]
  refine ds_seq (ds_while (fun m ρ => ∃ (c b : Nat) (s3 s4 : Sl), ρ = [.sh (.int (-(n : Int))), .sh (.int c), .sh (.int b), s3, s4] ∧ c + clsB n m b = clsB n (n + 1) (n % 2) ∧ n < b + m ∧ b < 1000) (n + 1) ⟨0, n % 2, _, _, rfl, by rw [Nat.zero_add], by omega, by omega⟩ (fun m ρ h => ?_))
  obtain ⟨c, b, s3, s4, rfl, I, hm, bl⟩ := h
  refine dt_test (de_B0 (de_II (de_II (de_int (de_var rfl ⟨3, b, rfl, rfl, mo (by decide) (by omega), de_var rfl ⟨_, b, rfl, rfl, mo (by omega) (by omega), de_un (de_var rfl ⟨_, rfl, _, _, rfl, rfl, _, rfl, ?_⟩)⟩⟩)))))
  rw [Int.neg_neg]
  by_cases hb : 3 * b * b ≤ n
  · have hb' : (3 : Int) * b * b ≤ n := by exact_mod_cast hb
    rw [decide_eq_true hb']
    have bn : b ≤ n := by
      have := Nat.le_mul_self b
      rw [Nat.mul_assoc] at hb
      omega
    obtain ⟨m, rfl⟩ : ∃ k, m = k + 1 := ⟨m - 1, by omega⟩
    rw [clsB_step hb] at I
    have bb : b * b ≤ n := by
      rw [Nat.mul_assoc] at hb
      omega
    have eP : ((b : Int) * b - -(n : Int)).fdiv 4 = (((b * b + n) / 4 : Nat) : Int) := by
      rw [Int.fdiv_eq_ediv_of_nonneg _ (by decide), ← Int.natCast_mul]
      omega
    refine iteT (ds_seq (ds_par (da_cons (de_II (de_I0 (de_II (de_var rfl (de_var rfl ⟨b, b, rfl, rfl, mo (by omega) (by omega), de_var rfl ⟨_, _, rfl, rfl, de_int ⟨_, 4, rfl, rfl, ⟨by decide, by decide⟩, da_cons (de_max2 (de_var rfl (de_int ⟨b, 1, rfl, rfl, da_nil ⟨_, _, rfl, ?_⟩⟩)))⟩⟩⟩))))))))
    rw [eP, max2]
    generalize eq : (b * b + n) / 4 = Q at *
    have Ql : Q ≤ 400 := by omega
    refine ds_seq (ds_while (fun k ρ => ∃ (c' a : Nat), ρ = [.sh (.int (-(n : Int))), .sh (.int c'), .sh (.int b), .sh (.int Q), .sh (.int a)] ∧ c' + clsA Q b k a = c + clsA Q b (Q + 1) (max b 1) ∧ Q < a + k ∧ 1 ≤ a ∧ a < 100000) (Q + 1) ⟨c, max b 1, rfl, rfl, by omega, by omega, by omega⟩ (fun k ρ h => ?_))
    obtain ⟨c', a, rfl, J, hk, a1, al⟩ := h
    refine dt_test (de_B0 (de_II (de_var rfl (de_var rfl ⟨a, a, rfl, rfl, mo (by omega) (by omega), de_var rfl ⟨_, Q, rfl, rfl, _, rfl, ?_⟩⟩))))
    by_cases ha : a * a ≤ Q
    · have ha' : (a : Int) * a ≤ Q := by exact_mod_cast ha
      rw [decide_eq_true ha']
      have aQ : a ≤ Q := Nat.le_trans (Nat.le_mul_self a) ha
      obtain ⟨k, rfl⟩ : ∃ i, k = i + 1 := ⟨k - 1, by omega⟩
      rw [clsA_step ha] at J
      refine iteT (ds_seq (DS.mid (mid := fun ρ => ρ = [.sh (.int (-(n : Int))), .sh (.int ((c' + clT Q b a : Nat) : Int)), .sh (.int b), .sh (.int Q), .sh (.int a)]) ?_ fun ρ h => ?_))
      · refine ds_if (dt_and (dt_test (de_eqI (de_II (de_intc (de_var rfl (Or.inl ⟨_, rfl, de_var rfl ⟨Q, a, rfl, rfl, by omega, de_int ⟨_, 0, rfl, rfl, _, rfl, ?_⟩⟩⟩)))))))
        rw [dec_mod]
        by_cases hd : a ∣ Q
        · rw [decide_eq_true hd]
          refine iteT (dt_test (de_eqI (de_call EL.no (dc_cons (de_call EL.no (dc_cons (de_var rfl (dc_cons (de_var rfl (dc_nil ⟨a, b, rfl, dc_cons (de_II (de_var rfl (de_var rfl ⟨Q, a, rfl, rfl, cdn (by omega) (by omega), dc_nil ⟨_, _, rfl, de_int ⟨_, 1, rfl, rfl, _, rfl, ?_⟩⟩⟩)))⟩))))))))))
          rw [fdiv_nat]
          have gg : ((Nat.gcd (((Nat.gcd (a : Int).natAbs (b : Int).natAbs : Nat) : Int)).natAbs (((Q / a : Nat) : Int)).natAbs : Nat) : Int) = ((Nat.gcd (Nat.gcd a b) (Q / a) : Nat) : Int) := by
            rw [Int.natAbs_natCast, Int.natAbs_natCast, Int.natAbs_natCast, Int.natAbs_natCast]
          rw [gg]
          by_cases hg : Nat.gcd (Nat.gcd a b) (Q / a) = 1
          · rw [hg]
            have put : ∀ v : Int, (v = if b = 0 ∨ a = b ∨ a * a = Q then 1 else 2) → [Sl.sh (.int (-(n : Int))), .sh (.int ((c' : Int) + v)), .sh (.int b), .sh (.int Q), .sh (.int a)] = [.sh (.int (-(n : Int))), .sh (.int ((c' + clT Q b a : Nat) : Int)), .sh (.int b), .sh (.int Q), .sh (.int a)] := fun v ev => by
              have : (c' : Int) + v = ((c' + clT Q b a : Nat) : Int) := by
                have e : clT Q b a = if b = 0 ∨ a = b ∨ a * a = Q then 1 else 2 := if_pos ⟨Nat.mod_eq_zero_of_dvd hd, hg⟩
                rw [ev, e]
                split <;> omega
              rw [this]
            refine iteT (ds_asg (de_addI (de_var rfl (de_ite (dt_or (dt_test (de_eqI (de_var rfl (de_int ⟨b, 0, rfl, rfl, _, rfl, ?_⟩)))))))))
            by_cases h1 : b = 0
            · rw [decide_eq_true (by omega)]
              exact iteT (iteT (de_int ⟨c', 1, rfl, rfl, put 1 (by rw [if_pos (Or.inl h1)])⟩))
            rw [decide_eq_false (by omega)]
            refine iteF (dt_or (dt_test (de_eqI (de_var rfl (de_var rfl ⟨a, b, rfl, rfl, _, rfl, ?_⟩)))))
            by_cases h2 : a = b
            · rw [decide_eq_true (by omega)]
              exact iteT (iteT (de_int ⟨c', 1, rfl, rfl, put 1 (by rw [if_pos (Or.inr (Or.inl h2))])⟩))
            rw [decide_eq_false (by omega)]
            refine iteF (dt_test (de_eqI (de_II (de_var rfl (de_var rfl ⟨a, a, rfl, rfl, mo (by omega) (by omega), de_var rfl ⟨_, Q, rfl, rfl, _, rfl, ?_⟩⟩)))))
            by_cases h3 : a * a = Q
            · have h3' : (a : Int) * a = Q := by exact_mod_cast h3
              rw [decide_eq_true h3']
              exact iteT (de_int ⟨c', 1, rfl, rfl, put 1 (by rw [if_pos (Or.inr (Or.inr h3))])⟩)
            · have h3' : ¬ (a : Int) * a = Q := fun z => h3 (by exact_mod_cast z)
              rw [decide_eq_false h3']
              exact iteF (de_int ⟨c', 2, rfl, rfl, put 2 (by rw [if_neg (fun z => z.elim h1 fun z => z.elim h2 h3)])⟩)
          · rw [decide_eq_false (by omega)]
            refine iteF (ds_next ?_)
            have : clT Q b a = 0 := by unfold clT; rw [if_neg (fun z => hg z.2)]
            rw [this] <;> rfl
        · rw [decide_eq_false hd]
          refine iteF (iteF (ds_next ?_))
          have : clT Q b a = 0 := by unfold clT; rw [if_neg (fun z => hd (Nat.dvd_of_mod_eq_zero z.1))]
          rw [this] <;> rfl
      subst h
      exact ds_asg (de_addI (de_var rfl (de_int ⟨a, 1, rfl, rfl, k, by omega, _, a + 1, rfl, by omega, by omega, by omega, by omega⟩)))
    · have ha' : ¬ (a : Int) * a ≤ Q := fun z => ha (by exact_mod_cast z)
      rw [decide_eq_false ha']
      rw [clsA_end (by omega)] at J
      exact iteF (ds_asg (de_addI (de_var rfl (de_int ⟨b, 2, rfl, rfl, m, by omega, c', b + 2, _, _, rfl, by omega, by omega, by omega⟩))))
  · have hb' : ¬ (3 : Int) * b * b ≤ n := fun z => hb (by exact_mod_cast z)
    rw [decide_eq_false hb']
    rw [clsB_end (by omega), Nat.add_zero] at I
    subst I
    exact iteF (ds_ret (de_var rfl q))
end
end Law

set_option Elab.async false
set_option linter.all false
set_option maxRecDepth 100000
set_option maxHeartbeats 4000000
namespace Law
open PySem PySem.Spec PyProof.Rows L2 G
theorem sqf_dec {n s k b : Nat} (s0 : 0 < s) (hn : n = s * (k * k)) (hb : s < b * b) (h : (List.range b).all (fun m => Nat.blt m 2 || !(s % (m * m) == 0)) = true) : SqF n s := ⟨s0, ⟨k, hn⟩, fun m m2 hd => by
  by_cases z : m < b
  · have := List.all_eq_true.mp h m (List.mem_range.mpr z)
    rw [Nat.mod_eq_zero_of_dvd hd] at this
    have e : Nat.blt m 2 = false := by
      cases e : Nat.blt m 2 with
      | false => rfl
      | true => have : m < 2 := Nat.blt_eq.mp e; omega
    rw [e] at this
    cases this
  · have := Nat.le_of_dvd s0 hd
    have := Nat.mul_le_mul (show b ≤ m by omega) (show b ≤ m by omega)
    omega⟩
/-- the square-free part of one of the numbers -/
def sfE (d : Int) : Nat := if d.natAbs % 4 = 0 then d.natAbs / 4 else d.natAbs
theorem chk9 : (ents.all fun e => !(e.1 == 0) && Nat.blt (sfE e.1) 324 && ((List.range 18).all fun m => Nat.blt m 2 || !(sfE e.1 % (m * m) == 0)) && fuZ (sgZ e.1 (sfE e.1)) == e.1) = true := by decide +kernel
theorem Bas.fui {d : Int} (h : Bas d) : FuI d := by
  obtain ⟨e, he, rfl⟩ := h
  have c := List.all_eq_true.mp chk9 e he
  rw [Bool.and_eq_true, Bool.and_eq_true, Bool.and_eq_true] at c
  obtain ⟨⟨⟨c1, c2⟩, c3⟩, c4⟩ := c
  have d0 : e.1 ≠ 0 := by simpa using c1
  have c2 : sfE e.1 < 324 := Nat.blt_eq.mp c2
  refine ⟨d0, sfE e.1, ?_, by simpa using c4⟩
  by_cases z : e.1.natAbs % 4 = 0
  · have es : sfE e.1 = e.1.natAbs / 4 := if_pos z
    exact sqf_dec (k := 2) (b := 18) (by omega) (by rw [es]; omega) (by omega) c3
  · have es : sfE e.1 = e.1.natAbs := if_neg z
    exact sqf_dec (k := 1) (b := 18) (by omega) (by rw [es]; omega) (by omega) c3
theorem Bas.le {d : Int} (h : Bas d) : d.natAbs ≤ 1200 := by
  obtain ⟨e, he, rfl⟩ := h
  exact (en_of he).le
theorem bad_int {i : Int} {s : Nat} (i0 : i ≠ 0) (h : SqF i.natAbs s) (hne : fuZ (sgZ i s) ≠ i) : BadD (.int i) := Or.inr ⟨i, rfl, Or.inr (Or.inr fun s' hs => by rw [hs.uniq (by omega) h]; exact hne)⟩
def badL : List D := [.int 0, .non, .bl true, .str "5", .int 2, .int 3, .int (-1), .int 4, .int 9, .int 48, .int 1000000001]
def oddL : List D := [.int 0, .int (-3), .non, .bl true, .str "1"]
def lostL : List D := [.int 0, .int 3, .non, .bl true, .str "1"]
def wrongL : List D := [.int 0, .int 1000000001, .int (-1000000001), .non, .bl true, .str "5"]
theorem tm_dec {d : D} (h : (d.pl && d.py.showable && decide (d.py.depth ≤ 3) && d.py.leavesShort 70 && decide (d.py.bulk ≤ 20) && leafOc d.py) = true) : Tm 3 20 d := by
  simp only [Bool.and_eq_true, decide_eq_true_eq] at h
  obtain ⟨⟨⟨⟨⟨h1, h2⟩, h3⟩, h4⟩, h5⟩, h6⟩ := h
  exact Tm.dec h1 h2 h3 h4 h5 h6
theorem badL_ok : ∀ d ∈ badL, Pl d ∧ BadD d ∧ Tm 3 20 d := fun d hd => by
  simp only [badL, List.mem_cons, List.not_mem_nil, or_false] at hd
  rcases hd with rfl | rfl | rfl | rfl | rfl | rfl | rfl | rfl | rfl | rfl | rfl
  · exact ⟨⟨_, rfl⟩, Or.inr ⟨0, rfl, Or.inl rfl⟩, tm_dec (by decide +kernel)⟩
  · exact ⟨⟨_, rfl⟩, Or.inl rfl, tm_dec (by decide +kernel)⟩
  · exact ⟨⟨_, rfl⟩, Or.inl rfl, tm_dec (by decide +kernel)⟩
  · exact ⟨⟨_, rfl⟩, Or.inl rfl, tm_dec (by decide +kernel)⟩
  · exact ⟨⟨_, rfl⟩, bad_int (s := 2) (by decide) (sqf_dec (k := 1) (b := 2) (by decide) (by decide) (by decide) (by decide)) (by decide), tm_dec (by decide +kernel)⟩
  · exact ⟨⟨_, rfl⟩, bad_int (s := 3) (by decide) (sqf_dec (k := 1) (b := 2) (by decide) (by decide) (by decide) (by decide)) (by decide), tm_dec (by decide +kernel)⟩
  · exact ⟨⟨_, rfl⟩, bad_int (s := 1) (by decide) (sqf_dec (k := 1) (b := 2) (by decide) (by decide) (by decide) (by decide)) (by decide), tm_dec (by decide +kernel)⟩
  · exact ⟨⟨_, rfl⟩, bad_int (s := 1) (by decide) (sqf_dec (k := 2) (b := 2) (by decide) (by decide) (by decide) (by decide)) (by decide), tm_dec (by decide +kernel)⟩
  · exact ⟨⟨_, rfl⟩, bad_int (s := 1) (by decide) (sqf_dec (k := 3) (b := 2) (by decide) (by decide) (by decide) (by decide)) (by decide), tm_dec (by decide +kernel)⟩
  · exact ⟨⟨_, rfl⟩, bad_int (s := 3) (by decide) (sqf_dec (k := 4) (b := 2) (by decide) (by decide) (by decide) (by decide)) (by decide), tm_dec (by decide +kernel)⟩
  · exact ⟨⟨_, rfl⟩, Or.inr ⟨_, rfl, Or.inr (Or.inl (by decide))⟩, tm_dec (by decide +kernel)⟩
theorem oddL_ok : ∀ d ∈ oddL, Pl d ∧ (isI d = false ∨ ∃ i : Int, d = .int i ∧ i < 1) ∧ Tm 3 20 d := fun d hd => by
  simp only [oddL, List.mem_cons, List.not_mem_nil, or_false] at hd
  rcases hd with rfl | rfl | rfl | rfl | rfl
  · exact ⟨⟨_, rfl⟩, Or.inr ⟨_, rfl, by decide⟩, tm_dec (by decide +kernel)⟩
  · exact ⟨⟨_, rfl⟩, Or.inr ⟨_, rfl, by decide⟩, tm_dec (by decide +kernel)⟩
  · exact ⟨⟨_, rfl⟩, Or.inl rfl, tm_dec (by decide +kernel)⟩
  · exact ⟨⟨_, rfl⟩, Or.inl rfl, tm_dec (by decide +kernel)⟩
  · exact ⟨⟨_, rfl⟩, Or.inl rfl, tm_dec (by decide +kernel)⟩
theorem lostL_ok : ∀ d ∈ lostL, Pl d ∧ (isI d = false ∨ ∃ i : Int, d = .int i ∧ i ≠ 1 ∧ i ≠ 2) ∧ Tm 3 20 d := fun d hd => by
  simp only [lostL, List.mem_cons, List.not_mem_nil, or_false] at hd
  rcases hd with rfl | rfl | rfl | rfl | rfl
  · exact ⟨⟨_, rfl⟩, Or.inr ⟨_, rfl, by decide, by decide⟩, tm_dec (by decide +kernel)⟩
  · exact ⟨⟨_, rfl⟩, Or.inr ⟨_, rfl, by decide, by decide⟩, tm_dec (by decide +kernel)⟩
  · exact ⟨⟨_, rfl⟩, Or.inl rfl, tm_dec (by decide +kernel)⟩
  · exact ⟨⟨_, rfl⟩, Or.inl rfl, tm_dec (by decide +kernel)⟩
  · exact ⟨⟨_, rfl⟩, Or.inl rfl, tm_dec (by decide +kernel)⟩
theorem wrongL_ok : ∀ d ∈ wrongL, Pl d ∧ BadN d ∧ Tm 3 20 d := fun d hd => by
  simp only [wrongL, List.mem_cons, List.not_mem_nil, or_false] at hd
  rcases hd with rfl | rfl | rfl | rfl | rfl | rfl
  · exact ⟨⟨_, rfl⟩, Or.inr ⟨_, rfl, Or.inl rfl⟩, tm_dec (by decide +kernel)⟩
  · exact ⟨⟨_, rfl⟩, Or.inr ⟨_, rfl, Or.inr (by decide)⟩, tm_dec (by decide +kernel)⟩
  · exact ⟨⟨_, rfl⟩, Or.inr ⟨_, rfl, Or.inr (by decide)⟩, tm_dec (by decide +kernel)⟩
  · exact ⟨⟨_, rfl⟩, Or.inl rfl, tm_dec (by decide +kernel)⟩
  · exact ⟨⟨_, rfl⟩, Or.inl rfl, tm_dec (by decide +kernel)⟩
  · exact ⟨⟨_, rfl⟩, Or.inl rfl, tm_dec (by decide +kernel)⟩
abbrev XB (a : Ad) (wd : Str) (n : D) : Addr → List (Str × D) → Prop := fun C fs => C = a.c_BadNumber ∧ fs = [(("number" : Str), n), (("what" : Str), D.str wd)]
abbrev XM (a : Ad) (m : Nat) : Addr → List (Str × D) → Prop := fun C fs => C = a.c_TooMany ∧ fs = [(("limit" : Str), .int 50000), (("many" : Str), .int (m : Int)), (("what" : Str), D.str "D")]
theorem FoB {a : Ad} {R : D → Prop} {wd : Str} {n : D} (ok : okR n) (h : R (.tup [.str "number", .str wd, .str n.py.shown])) : FoF a (fun _ => False) (XB a wd n) R :=
  ⟨fun d z => z.elim, fun C fs z => ⟨0, .str wd, n, .non, by decide, z.1, z.2, fun z => by omega, fun _ => ok, h⟩⟩
theorem FoM {a : Ad} {R : D → Prop} {m : Nat} (h : R (.tup [.str "many", .str "D", .int (m : Int), .int 50000])) : FoF a (fun _ => False) (XM a m) R :=
  ⟨fun d z => z.elim, fun C fs z => ⟨12, .str "D", .int (m : Int), .int 50000, by decide, z.1, z.2, fun z => by omega, fun z => by omega, h⟩⟩
theorem wOd {s : Str} (h : PyData.strOk s = true) (w1 w2 : Str) (h1 : PyData.strOk w1 = true) (h2 : PyData.strOk w2 = true) : Od 3 (.tup [.str w1, .str w2, .str s]) :=
  (OdL.tup (n := 2) (.cons (.str h1) (.cons (.str h2) (.cons (.str h) .nil))))
theorem mOd (m : Int) : Od 3 (.tup [.str "many", .str "D", .int m, .int 50000]) :=
  (OdL.tup (n := 2) (.cons (.str (by decide +kernel)) (.cons (.str (by decide +kernel)) (.cons .int (.cons .int .nil)))))
theorem fui_p : FuI 50021 := ⟨by decide, 50021, sqf_dec (k := 1) (b := 224) (by decide) (by decide) (by decide) (by decide +kernel), by decide⟩
theorem fui_m : FuI (-50020) := ⟨by decide, 12505, sqf_dec (k := 2) (b := 112) (by decide) (by decide) (by decide) (by decide +kernel), by decide⟩
theorem sN : PyData.strOk "number" = true := by decide +kernel
theorem sD : PyData.strOk "D" = true := by decide +kernel
theorem sk : PyData.strOk "k" = true := by decide +kernel
section
variable {P : Program} {w : World} {K : PySem.W.Frag} {mg : Str → Option Value} {base : Heap} {a : Ad}
def F_ref : DF := fun ss R _ => ∃ d, ss = [.pen, .sh (.int d)] ∧ Bas d ∧ R (.bl true)
theorem ok__law_refused (T : Tx K mg a) (hS : Sy mg base a) : FnG P w K mg base true 10 a.f__law_refused a.d__law_refused (["pen", "d"] : List Str) (fun _ => spT K (tbq a) F_ref) := by
  refine fn_dataT T.F__law_refused sc__law_refused (fun ss R X z => by obtain ⟨_, h, _⟩ := z; rw [h] <;> rfl) fun cdv A outer s H E pl hc hr => ⟨_, (pss_cons (ps_asg (pe_tup (pa_cons (pe_go (ok__law_pick T hS) (hr.mono (by decide)) (pl := []) (fun _ h => nomatch h) (by rfl) T.g__law_pick T.F__law_pick.kp T.b__law_pick lets0 (pa_cons (pv 0) (pa_cons (pe_lst (pa_cons pe_int (pa_cons pe_non (pa_cons pe_bl (pa_cons pe_str (pa_cons pe_int (pa_cons pe_int (pa_cons (pe_un un_neg pe_int) (pa_cons pe_int (pa_cons pe_int (pa_cons (pe_op op_mulG pe_int pe_int) (pa_cons (pe_op op_addG (pe_op op_pow pe_int pe_int) pe_int) pa_nil)))))))))))) pa_nil))) (pa_cons (pe_go (ok__law_pick T hS) (hr.mono (by decide)) (pl := []) (fun _ h => nomatch h) (by rfl) T.g__law_pick T.F__law_pick.kp T.b__law_pick lets0 (pa_cons (pv 0) (pa_cons (pe_lst (pa_cons pe_int (pa_cons (pe_un un_neg pe_int) (pa_cons pe_non (pa_cons pe_bl (pa_cons pe_str pa_nil)))))) pa_nil))) (pa_cons (pe_go (ok__law_pick T hS) (hr.mono (by decide)) (pl := []) (fun _ h => nomatch h) (by rfl) T.g__law_pick T.F__law_pick.kp T.b__law_pick lets0 (pa_cons (pv 0) (pa_cons (pe_lst (pa_cons pe_int (pa_cons pe_int (pa_cons pe_non (pa_cons pe_bl (pa_cons pe_str pa_nil)))))) pa_nil))) pa_nil)))) (pg_tup (n := 3) rfl (pgs_cons (pg_name (i := 2) sc__law_refused.nd rfl (Or.inr rfl)) (pgs_cons (pg_name (i := 3) sc__law_refused.nd rfl (Or.inr rfl)) (pgs_cons (pg_name (i := 4) sc__law_refused.nd rfl (Or.inr rfl)) pgs_nil)))))
      (pss_cons (ps_set (i := 5) sc__law_refused.nd rfl (Or.inl rfl) (pe_lst (pa_cons (pe_lamG (c := a.cc__law_refused) (P := a.tb__law_refused) (k := 7) (by rfl) T.g__law_fault T.F__law_fault T.b__law_fault sc__law_fault rfl (Or.inl rfl) (fun cdg => gives__law_fault T hS cdg) (hS.tb (a.cc__law_refused, a.tb__law_refused) (by simp [tbs])) (hc.symm.trans T.cd__law_refused) (hr.mono (by decide)) (LamX.lamS_by (sc := defScope s__law_refused) (by decide +kernel)) rfl (fun _ _ _ _ _ => rfl) (fun A outer s H E f c hL => (pe_go (ok_mark_of T hS) (hL.mono (by decide)) (pl := []) (fun _ h => nomatch h) (by rfl) T.g_mark_of T.F_mark_of.kp T.b_mark_of (passAt (takes_of rfl rfl rfl rfl)) (pa_cons (pv 2) (pa_cons (pv 3) pa_nil))))) pa_nil)))
      (pss_cons (ps_expr (pe_bm PySem.F.plainAttrs_list PySem.F.slot_list_append PySem.F.type_list_append mt_append (pv 5) (pa_cons (pe_lamG (c := a.cc__law_refused) (P := a.tb__law_refused) (k := 7) (by rfl) T.g__law_fault T.F__law_fault T.b__law_fault sc__law_fault rfl (Or.inl rfl) (fun cdg => gives__law_fault T hS cdg) (hS.tb (a.cc__law_refused, a.tb__law_refused) (by simp [tbs])) (hc.symm.trans T.cd__law_refused) (hr.mono (by decide)) (LamX.lamS_by (sc := defScope s__law_refused) (by decide +kernel)) rfl (fun _ _ _ _ _ => rfl) (fun A outer s H E f c hL => (pe_go (ok_bernoulli_of T hS) (hL.mono (by decide)) (pl := []) (fun _ h => nomatch h) (by rfl) T.g_bernoulli_of T.F_bernoulli_of.kp T.b_bernoulli_of (passAt (takes_of rfl rfl rfl rfl)) (pa_cons (pv 2) (pa_cons (pv 4) pa_nil))))) pa_nil)))
      (pss_cons (ps_expr (pe_bm PySem.F.plainAttrs_list PySem.F.slot_list_append PySem.F.type_list_append mt_append (pv 5) (pa_cons (pe_lamG (c := a.cc__law_refused) (P := a.tb__law_refused) (k := 7) (by rfl) T.g__law_fault T.F__law_fault T.b__law_fault sc__law_fault rfl (Or.inl rfl) (fun cdg => gives__law_fault T hS cdg) (hS.tb (a.cc__law_refused, a.tb__law_refused) (by simp [tbs])) (hc.symm.trans T.cd__law_refused) (hr.mono (by decide)) (LamX.lamS_by (sc := defScope s__law_refused) (by decide +kernel)) rfl (fun _ _ _ _ _ => rfl) (fun A outer s H E f c hL => (pe_go (ok_mark_of T hS) (hL.mono (by decide)) (pl := []) (fun _ h => nomatch h) (by rfl) T.g_mark_of T.F_mark_of.kp T.b_mark_of (passAt (takes_of rfl rfl rfl rfl)) (pa_cons (pv 1) (pa_cons (pv 3) pa_nil))))) pa_nil)))
      (pss_cons (ps_expr (pe_bm PySem.F.plainAttrs_list PySem.F.slot_list_append PySem.F.type_list_append mt_append (pv 5) (pa_cons (pe_lamG (c := a.cc__law_refused) (P := a.tb__law_refused) (k := 7) (by rfl) T.g__law_fault T.F__law_fault T.b__law_fault sc__law_fault rfl (Or.inl rfl) (fun cdg => gives__law_fault T hS cdg) (hS.tb (a.cc__law_refused, a.tb__law_refused) (by simp [tbs])) (hc.symm.trans T.cd__law_refused) (hr.mono (by decide)) (LamX.lamS_by (sc := defScope s__law_refused) (by decide +kernel)) rfl (fun _ _ _ _ _ => rfl) (fun A outer s H E f c hL => (pe_go (ok_bernoulli_of T hS) (hL.mono (by decide)) (pl := []) (fun _ h => nomatch h) (by rfl) T.g_bernoulli_of T.F_bernoulli_of.kp T.b_bernoulli_of (passAt (takes_of rfl rfl rfl rfl)) (pa_cons (pv 1) (pa_cons (pv 4) pa_nil))))) pa_nil)))
      (pss_cons (ps_expr (pe_bm PySem.F.plainAttrs_list PySem.F.slot_list_append PySem.F.type_list_append mt_append (pv 5) (pa_cons (pe_lamG (c := a.cc__law_refused) (P := a.tb__law_refused) (k := 7) (by rfl) T.g__law_fault T.F__law_fault T.b__law_fault sc__law_fault rfl (Or.inl rfl) (fun cdg => gives__law_fault T hS cdg) (hS.tb (a.cc__law_refused, a.tb__law_refused) (by simp [tbs])) (hc.symm.trans T.cd__law_refused) (hr.mono (by decide)) (LamX.lamS_by (sc := defScope s__law_refused) (by decide +kernel)) rfl (fun _ _ _ _ _ => rfl) (fun A outer s H E f c hL => (pe_go (ok_bernoulli_of T hS) (hL.mono (by decide)) (pl := []) (fun _ h => nomatch h) (by rfl) T.g_bernoulli_of T.F_bernoulli_of.kp T.b_bernoulli_of (passAt (takes_of rfl rfl rfl rfl)) (pa_cons pe_int (pa_cons (pv 4) pa_nil))))) pa_nil)))
      (pss_cons (ps_expr (pe_bm PySem.F.plainAttrs_list PySem.F.slot_list_append PySem.F.type_list_append mt_append (pv 5) (pa_cons (pe_lamG (c := a.cc__law_refused) (P := a.tb__law_refused) (k := 7) (by rfl) T.g__law_fault T.F__law_fault T.b__law_fault sc__law_fault rfl (Or.inl rfl) (fun cdg => gives__law_fault T hS cdg) (hS.tb (a.cc__law_refused, a.tb__law_refused) (by simp [tbs])) (hc.symm.trans T.cd__law_refused) (hr.mono (by decide)) (LamX.lamS_by (sc := defScope s__law_refused) (by decide +kernel)) rfl (fun _ _ _ _ _ => rfl) (fun A outer s H E f c hL => (pe_go (ok_mark_of T hS) (hL.mono (by decide)) (pl := []) (fun _ h => nomatch h) (by rfl) T.g_mark_of T.F_mark_of.kp T.b_mark_of (passAt (takes_of rfl rfl rfl rfl)) (pa_cons (pe_un un_neg pe_int) (pa_cons (pv 3) pa_nil))))) pa_nil)))
      (pss_cons (ps_set (i := 6) sc__law_refused.nd rfl (Or.inr rfl) (pe_go (ok__law_pick T hS) (hr.mono (by decide)) (pl := []) (fun _ h => nomatch h) (by rfl) T.g__law_pick T.F__law_pick.kp T.b__law_pick lets0 (pa_cons (pv 0) (pa_cons (pe_lst (pa_cons pe_int (pa_cons (pe_op op_addG (pe_op op_pow pe_int pe_int) pe_int) (pa_cons (pe_op op_sub (pe_un un_neg (pe_op op_pow pe_int pe_int)) pe_int) (pa_cons pe_non (pa_cons pe_bl (pa_cons pe_str pa_nil))))))) pa_nil))))
      (pss_cons (ps_expr (pe_bm PySem.F.plainAttrs_list PySem.F.slot_list_append PySem.F.type_list_append mt_append (pv 5) (pa_cons (pe_lamG (c := a.cc__law_refused) (P := a.tb__law_refused) (k := 7) (by rfl) T.g__law_fault T.F__law_fault T.b__law_fault sc__law_fault rfl (Or.inl rfl) (fun cdg => gives__law_fault T hS cdg) (hS.tb (a.cc__law_refused, a.tb__law_refused) (by simp [tbs])) (hc.symm.trans T.cd__law_refused) (hr.mono (by decide)) (LamX.lamS_by (sc := defScope s__law_refused) (by decide +kernel)) rfl (fun _ _ _ _ _ => rfl) (fun A outer s H E f c hL => (pe_go (ok_fundamental_of T hS) (hL.mono (by decide)) (pl := []) (fun _ h => nomatch h) (by rfl) T.g_fundamental_of T.F_fundamental_of.kp T.b_fundamental_of (passAt (takes_of rfl rfl rfl rfl)) (pa_cons (pv 6) pa_nil)))) pa_nil)))
      (pss_cons (ps_set (i := 7) sc__law_refused.nd rfl (Or.inl rfl) (pe_lst (pa_cons (pe_tup (pa_cons pe_str (pa_cons pe_str (pa_cons (pe_callB (call_repr hS.sys (hr.gd) hr.hu) (by rfl) T.n_repr PyProof.Rows.boot_repr (pa_cons (pv 2) pa_nil)) pa_nil)))) (pa_cons (pe_tup (pa_cons pe_str (pa_cons pe_str (pa_cons (pe_callB (call_repr hS.sys (hr.gd) hr.hu) (by rfl) T.n_repr PyProof.Rows.boot_repr (pa_cons (pv 2) pa_nil)) pa_nil)))) (pa_cons (pe_tup (pa_cons pe_str (pa_cons pe_str (pa_cons (pe_callB (call_repr hS.sys (hr.gd) hr.hu) (by rfl) T.n_repr PyProof.Rows.boot_repr (pa_cons (pv 3) pa_nil)) pa_nil)))) (pa_cons (pe_tup (pa_cons pe_str (pa_cons pe_str (pa_cons (pe_callB (call_repr hS.sys (hr.gd) hr.hu) (by rfl) T.n_repr PyProof.Rows.boot_repr (pa_cons (pv 4) pa_nil)) pa_nil)))) pa_nil))))))
      (pss_one (ps_ret (pe_cmpR (op_eqG hr.hu) (pv 5) (pe_op op_addG (pv 7) (pe_lst (pa_cons (pe_tup (pa_cons pe_str (pa_cons pe_str (pa_cons pe_int (pa_cons pe_int pa_nil))))) (pa_cons (pe_tup (pa_cons pe_str (pa_cons pe_str (pa_cons pe_int (pa_cons pe_int pa_nil))))) (pa_cons (pe_tup (pa_cons pe_str (pa_cons pe_str (pa_cons (pe_callB (call_repr hS.sys (hr.gd) hr.hu) (by rfl) T.n_repr PyProof.Rows.boot_repr (pa_cons (pv 6) pa_nil)) pa_nil)))) pa_nil))))) (nomark _)))))))))))))), fun b ss R X hbT h hX => ?_⟩
  obtain ⟨x, rfl, hx, q⟩ := h
  have hm : (a.tb__law_refused, ("_law_refused" : Str) ++ ".<locals>." ++ "<lambda>") ∈ tbq a := by simp [tbq]
  have hT : (a.tb__law_refused, ("_law_refused" : Str) ++ ".<locals>." ++ "<lambda>") ∈ b.T := by rw [hbT]; exact hm
  have hu : ∀ p ∈ b.T, p.1 = a.tb__law_refused → p.2 = ("_law_refused" : Str) ++ ".<locals>." ++ "<lambda>" := fun p hp e => hS.tq _ _ (by rw [← hbT]; exact hp) hm e
  refine ds_seq (ds_asgG (de_tup (da_cons (de_call EL.no (dc_pen rfl (dc_cons (de_lst ?_)))))))
  refine da_cons (de_int (da_cons (de_non (da_cons (de_bl (da_cons (de_str (da_cons (de_int (da_cons (de_int (da_cons (de_un (de_int ⟨1, rfl, da_cons (de_int (da_cons (de_int (da_cons (de_II (de_int (de_int ⟨12, 4, rfl, rfl, mo (by decide) (by decide), ?_⟩)))))))⟩))))))))))))))
  refine da_cons (de_addI (de_II (de_int (de_int ⟨10, 9, rfl, rfl, ⟨by decide, by decide, by decide⟩, de_int ⟨_, 1, rfl, rfl, da_nil ⟨by simp, dc_nil ⟨_, _, rfl, rfl, (fun z => nomatch z), by simp, fun bad hbad => ?_⟩⟩⟩⟩))))
  obtain ⟨p1, b1, m1⟩ := badL_ok bad hbad
  refine da_cons (de_call EL.no (dc_pen rfl (dc_cons (de_lst ?_))))
  refine da_cons (de_int (da_cons (de_un (de_int ⟨3, rfl, da_cons (de_non (da_cons (de_bl (da_cons (de_str (da_nil ⟨by simp, dc_nil ⟨_, _, rfl, rfl, (fun z => nomatch z), by simp, fun odd hodd => ?_⟩⟩))))))⟩))))
  obtain ⟨p2, b2, m2⟩ := oddL_ok odd hodd
  refine da_cons (de_call EL.no (dc_pen rfl (dc_cons (de_lst ?_))))
  refine da_cons (de_int (da_cons (de_int (da_cons (de_non (da_cons (de_bl (da_cons (de_str (da_nil ⟨by simp, dc_nil ⟨_, _, rfl, rfl, (fun z => nomatch z), by simp, fun lost hlost => ?_⟩⟩))))))))))
  obtain ⟨p3, b3, m3⟩ := lostL_ok lost hlost
  refine da_nil ⟨by simp, dg_tup rfl rfl (dgs_cons (dg_name (dgs_cons (dg_name (dgs_cons (dg_name (dgs_nil ?_)))))))⟩
  have fx := hx.fui
  have lx := hx.le
  have k1 := m1.ok (by decide) (by decide)
  have k2 := m2.ok (by decide) (by decide)
  have k3 := m3.ok (by decide) (by decide)
  refine ds_seq (ds_own (dn_lst (da_cons (de_lam (X := XB a "D" bad) (Qb := fun _ => False) hT hu (fun b1 E eM eT hE => de_call hE (dc_cons (de_var rfl (dc_cons (de_var rfl (dc_nil ⟨bad, odd, rfl, p1, p2, Or.inr ⟨‹_›, rfl, rfl⟩⟩)))))) (FoB k1 (da_nil ⟨by simp, ?_⟩))))))
  refine ds_seq (ds_app rfl (de_lam (X := XB a "D" bad) (Qb := fun _ => False) hT hu (fun b1 E eM eT hE => de_call hE (dc_cons (de_var rfl (dc_cons (de_var rfl (dc_nil ⟨bad, lost, rfl, p1, p3, Or.inr ⟨‹_›, rfl, rfl⟩⟩)))))) (FoB k1 ⟨by simp, ?_⟩)))
  refine ds_seq (ds_app rfl (de_lam (X := XB a "number" odd) (Qb := fun _ => False) hT hu (fun b1 E eM eT hE => de_call hE (dc_cons (de_var rfl (dc_cons (de_var rfl (dc_nil ⟨_, odd, rfl, ⟨_, rfl⟩, p2, Or.inl ⟨x, rfl, fx, by omega, by rw [if_pos (show x.natAbs ≤ 50000 by omega)]; exact Or.inr ⟨b2, rfl, rfl⟩⟩⟩)))))) (FoB k2 ⟨by simp, ?_⟩)))
  refine ds_seq (ds_app rfl (de_lam (X := XB a "k" lost) (Qb := fun _ => False) hT hu (fun b1 E eM eT hE => de_call hE (dc_cons (de_var rfl (dc_cons (de_var rfl (dc_nil ⟨_, lost, rfl, ⟨_, rfl⟩, p3, Or.inl ⟨x, rfl, fx, by omega, by rw [if_pos (show x.natAbs ≤ 50000 by omega)]; exact Or.inr ⟨b3, rfl, rfl⟩⟩⟩)))))) (FoB k3 ⟨by simp, ?_⟩)))
  refine ds_seq (ds_app rfl (de_lam (X := XM a 50021) (Qb := fun _ => False) hT hu (fun b1 E eM eT hE => de_call hE (dc_cons (de_int (dc_cons (de_var rfl (dc_nil ⟨_, lost, rfl, ⟨_, rfl⟩, p3, Or.inl ⟨50021, rfl, fui_p, by decide, by rw [if_neg (by decide)]; exact ⟨rfl, rfl⟩⟩⟩)))))) (FoM ⟨by simp, ?_⟩)))
  refine ds_seq (ds_app rfl (de_lam (X := XM a 50020) (Qb := fun _ => False) hT hu (fun b1 E eM eT hE => de_call hE (dc_cons (de_un (de_int ⟨50020, rfl, dc_cons (de_var rfl (dc_nil ⟨_, odd, rfl, ⟨_, rfl⟩, p2, Or.inl ⟨-50020, rfl, fui_m, by decide, by rw [if_neg (by decide)]; exact ⟨rfl, rfl⟩⟩⟩))⟩)))) (FoM ⟨by simp, ?_⟩)))
  refine ds_seq (ds_asg (de_call EL.no (dc_pen rfl (dc_cons (de_lst ?_)))))
  refine da_cons (de_int (da_cons (de_addI (de_II (de_int (de_int ⟨10, 9, rfl, rfl, ⟨by decide, by decide, by decide⟩, de_int ⟨_, 1, rfl, rfl, ?_⟩⟩))))))
  refine da_cons (de_I0 (de_un (de_II (de_int (de_int ⟨10, 9, rfl, rfl, ⟨by decide, by decide, by decide⟩, _, rfl, de_int ⟨_, 1, rfl, rfl, ?_⟩⟩)))))
  refine da_cons (de_non (da_cons (de_bl (da_cons (de_str (da_nil ⟨by simp, dc_nil ⟨_, _, rfl, rfl, (fun z => nomatch z), by simp, fun wrong hwrong => ?_⟩⟩))))))
  obtain ⟨p4, b4, m4⟩ := wrongL_ok wrong hwrong
  have k4 := m4.ok (by decide) (by decide)
  refine ds_seq (ds_app rfl (de_lam (X := XB a "number" wrong) (Qb := fun _ => False) hT hu (fun b1 E eM eT hE => de_call hE (dc_cons (de_var rfl (dc_nil ⟨wrong, rfl, p4, Or.inr ⟨b4, rfl, rfl⟩⟩)))) (FoB k4 ⟨by simp, ?_⟩)))
  refine ds_seq (ds_asg (de_lst ?_))
  refine da_cons (de_tup (da_cons (de_str (da_cons (de_str (da_cons (de_repr (de_var rfl ⟨k1, da_nil ⟨by simp, ?_⟩⟩))))))))
  refine da_cons (de_tup (da_cons (de_str (da_cons (de_str (da_cons (de_repr (de_var rfl ⟨k1, da_nil ⟨by simp, ?_⟩⟩))))))))
  refine da_cons (de_tup (da_cons (de_str (da_cons (de_str (da_cons (de_repr (de_var rfl ⟨k2, da_nil ⟨by simp, ?_⟩⟩))))))))
  refine da_cons (de_tup (da_cons (de_str (da_cons (de_str (da_cons (de_repr (de_var rfl ⟨k3, da_nil ⟨by simp, da_nil ⟨by simp, ?_⟩⟩⟩))))))))
  refine ds_share (i := 5) rfl (ds_ret (de_eqA (de_var rfl (de_new (dn_addL (de_var rfl (de_lst ?_)))))))
  refine da_cons (de_tup (da_cons (de_str (da_cons (de_str (da_cons (de_int (da_cons (de_int (da_nil ⟨by simp, ?_⟩))))))))))
  refine da_cons (de_tup (da_cons (de_str (da_cons (de_str (da_cons (de_int (da_cons (de_int (da_nil ⟨by simp, ?_⟩))))))))))
  refine da_cons (de_tup (da_cons (de_str (da_cons (de_str (da_cons (de_repr (de_var rfl ⟨k4, da_nil ⟨by simp, da_nil ⟨by simp, _, _, rfl, rfl, by simp, ?_⟩⟩⟩))))))))
  have O1 := wOd m1.so "number" "D" sN sD
  have O2 := wOd m2.so "number" "number" sN sN
  have O3 := wOd m3.so "number" "k" sN sk
  have O4 := wOd m4.so "number" "number" sN sN
  have O : Od 4 (.lst [.tup [.str "number", .str "D", .str bad.py.shown], .tup [.str "number", .str "D", .str bad.py.shown], .tup [.str "number", .str "number", .str odd.py.shown], .tup [.str "number", .str "k", .str lost.py.shown], .tup [.str "many", .str "D", .int 50021, .int 50000], .tup [.str "many", .str "D", .int 50020, .int 50000], .tup [.str "number", .str "number", .str wrong.py.shown]]) := OdL.lst (n := 3) (.cons O1 (.cons O1 (.cons O2 (.cons O3 (.cons (mOd _) (.cons (mOd _) (.cons O4 .nil)))))))
  refine ⟨O.ok (by decide), O.ok (by decide), ?_⟩
  exact (congrArg (fun c => R (D.bl c)) O.refl).mpr q
end
end Law

set_option Elab.async false
set_option linter.all false
set_option maxRecDepth 100000
set_option maxHeartbeats 4000000
namespace Law
open PySem PySem.Spec PyProof.Rows L2 G
theorem okD_pair (t b : Int) : okD (.tup [.int t, .int b]) = true := (OdL.tup (n := 0) (.cons .int (.cons .int .nil))).ok (by decide)
theorem okD_int (t : Int) : okD (.int t) = true := (Od.int (n := 0)).ok (by decide)
theorem RtV.okD {x : D} {t b : Int} (h : RtV x t b) : okD x = true := by
  cases h with
  | int t => exact okD_int t
  | pair t b h1 h2 => exact okD_pair t b
theorem RtV.eq0 {x : D} {t b : Int} (h : RtV x t b) : eqD x (.int 0) = decide (t = 0) := by
  cases h with
  | int t => 
    show PyData.eqv (.int t) (.int 0) = _
    simp only [PyData.eqv]
    exact Bool.beq_eq_decide_eq t 0
  | pair t b h1 h2 =>
    have : t ≠ 0 := fun z => by
      subst z
      rw [show (0 : Int).natAbs = 0 from rfl, Nat.gcd_zero_left] at h2
      omega
    rw [decide_eq_false this]
    show PyData.eqv (D.tup [.int t, .int b]).py (.int 0) = false
    simp [D.py, PyData.eqv]
theorem lowZ_shape (t v : Int) : (∃ i, lowZ t v = .int i) ∨ ∃ i j, lowZ t v = .tup [.int i, .int j] := by
  unfold lowZ
  split
  · exact Or.inl ⟨_, rfl⟩
  · exact Or.inr ⟨_, _, rfl⟩
theorem lowZ_eq0 {t v : Int} (hv : 0 < v) : eqD (lowZ t v) (.int 0) = decide (t = 0) := by
  obtain ⟨x, y, r, _, _, e⟩ := lowZ_rt (t := t) hv
  rw [r.eq0]
  have y0 := r.pos
  by_cases z : t = 0
  · subst z
    rw [Int.zero_mul] at e
    have : x = 0 := by
      rcases Int.mul_eq_zero.mp e.symm with h | h
      · exact h
      · omega
    rw [decide_eq_true this, decide_eq_true rfl]
  · have : ¬ x = 0 := fun h => by
      subst h
      rw [Int.zero_mul] at e
      rcases Int.mul_eq_zero.mp e with h | h
      · exact z h
      · omega
    rw [decide_eq_false this, decide_eq_false z]
theorem lowZ_okD {t v : Int} (hv : 0 < v) : okD (lowZ t v) = true := by
  obtain ⟨x, y, r, _⟩ := lowZ_rt (t := t) hv
  exact r.okD
theorem BV_shape (x k : Int) : (∃ i, BV x k = .int i) ∨ ∃ i j, BV x k = .tup [.int i, .int j] := by
  unfold BV
  split <;> exact lowZ_shape _ _
theorem BV_okD {x k : Int} (x0 : x ≠ 0) : okD (BV x k) = true := by
  unfold BV
  split <;> exact lowZ_okD (by omega)
/-- when the sum is nought -/
theorem BV_zero {x k : Int} (h : Bas x) (hl : x.natAbs < 400) (hk : k = 1 ∨ k = 2) : eqD (BV x k) (.int 0) = if k = 2 then decide (x < 0) else decide (x > 1) := by
  have x0 := h.fui.1
  obtain ⟨e, he, rfl⟩ := h
  obtain ⟨s1, s2, _⟩ := sums he hl
  unfold BV
  rcases hk with rfl | rfl
  · rw [if_pos rfl, if_neg (by decide), lowZ_eq0 (by omega)]
    exact decide_eq_decide.mpr s1
  · rw [if_neg (by decide), if_pos rfl, lowZ_eq0 (by omega)]
    exact decide_eq_decide.mpr s2
theorem BV_cls {x : Int} (h : Bas x) (hl : x.natAbs < 400) (hd : x < -4) : BV x 1 = .int (0 - (clsB x.natAbs (x.natAbs + 1) (x.natAbs % 2) : Int)) := by
  obtain ⟨e, he, rfl⟩ := h
  have s3 := (sums he hl).2.2 hd
  unfold BV
  rw [if_pos rfl, s3, ← lowZ_one]
  refine lowZ_eq (by omega) (by decide) ?_
  rw [Int.mul_one, Int.zero_sub]
theorem eqD_bl (c d : Bool) : eqD (.bl c) (.bl d) = (c == d) := by
  show PyData.eqv (.bool c) (.bool d) = _
  simp [PyData.eqv]
theorem okD_bl (c : Bool) : okD (.bl c) = true := by cases c <;> decide +kernel
theorem NM.good {a : Ad} {x : Int} {X : Addr → List (Str × D) → Prop} {p : Prop} (h : FuI x) (l : x.natAbs ≤ 1200) (q : p) : NM a (.int x) X p := Or.inl ⟨x, rfl, h, by omega, by rw [if_pos (show x.natAbs ≤ 50000 by omega)]; exact q⟩
theorem bas4 : Bas (-4) := ⟨(-4, 1, []), by decide +kernel, rfl⟩
theorem bas5 : Bas 5 := ⟨(5, 0, [5]), by decide +kernel, rfl⟩
theorem mem4 : ((-4 : Int), 1, ([] : List Nat)) ∈ ents := by decide +kernel
theorem mem5 : ((5 : Int), 0, [5]) ∈ ents := by decide +kernel
theorem mk43 : mk (pmk (-4)) 3 = -1 := by
  rw [mk_ev mem4 (by decide) (by decide)]
  decide +kernel
theorem bv41 : BV (-4) 1 = .tup [.int (-1), .int 2] := by
  have e : S1 (-4) 4 = -2 := by
    have : S1 (-4) 4 = sm (fun a => ev 1 [] a * a) 4 := sm_congr 4 fun a h1 h2 => by
      show mk (pmk (-4)) a * a = _
      rw [mk_ev mem4 h1 (show a ≤ 4 + 400 by omega)]
    rw [this]
    decide +kernel
  show (if (1 : Int) = 1 then lowZ (S1 (-4) 4) ((4 : Nat) : Int) else _) = _
  rw [if_pos rfl, e]
  have g : byZ (-2) ((4 : Nat) : Int) = 2 := by decide +kernel
  unfold lowZ
  rw [g, if_neg (by decide)] <;> rfl
theorem bv52 : BV 5 2 = .tup [.int 4, .int 5] := by
  have ge : ∀ a, 1 ≤ a → a ≤ 5 → gm 5 a = ev 0 [5] a := fun a h1 h2 => mk_ev mem5 h1 (show a ≤ 5 + 400 by omega)
  have e0 : S0 5 5 = 0 := by
    have : S0 5 5 = sm (fun a => ev 0 [5] a) 5 := sm_congr 5 fun a h1 h2 => ge a h1 h2
    rw [this]
    decide +kernel
  have e1 : S1 5 5 = 0 := by
    have : S1 5 5 = sm (fun a => ev 0 [5] a * a) 5 := sm_congr 5 fun a h1 h2 => by rw [ge a h1 h2]
    rw [this]
    decide +kernel
  have e2 : S2 5 5 = 4 := by
    have : S2 5 5 = sm (fun a => ev 0 [5] a * a * a) 5 := sm_congr 5 fun a h1 h2 => by rw [ge a h1 h2]
    rw [this]
    decide +kernel
  show (if (2 : Int) = 1 then _ else lowZ (6 * S2 5 5 - 6 * S1 5 5 * ((5 : Nat) : Int) + S0 5 5 * ((5 : Nat) : Int) * ((5 : Nat) : Int)) (6 * ((5 : Nat) : Int))) = _
  rw [if_neg (by decide), e0, e1, e2]
  have g : byZ (6 * 4 - 6 * 0 * ((5 : Nat) : Int) + 0 * ((5 : Nat) : Int) * ((5 : Nat) : Int)) (6 * ((5 : Nat) : Int)) = 6 := by decide +kernel
  unfold lowZ
  rw [g, if_neg (by decide)] <;> rfl
theorem sgZ_up (x : Int) {q : Int} (h : 0 < q) (s : Nat) : sgZ (x * q * q) s = sgZ x s := by
  have qq : 0 < q * q := Int.mul_pos h h
  unfold sgZ
  rw [Int.mul_assoc]
  by_cases z : x > 0
  · rw [if_pos z, if_pos (Int.mul_pos z qq)]
  · rw [if_neg z, if_neg]
    have : x * (q * q) ≤ 0 := Int.mul_nonpos_of_nonpos_of_nonneg (by omega) (by omega)
    omega
section
variable {P : Program} {w : World} {K : PySem.W.Frag} {mg : Str → Option Value} {base : Heap} {a : Ad}
theorem ok_law (T : Tx K mg a) (hS : Sy mg base a) : FnG P w K mg base true 12 a.f_law a.d_law (["script"] : List Str) (fun _ => spLawT K (tbs a)) := by
  refine fn_goC T.F_law sc_law (fun pl vs H Q E h => by obtain ⟨_, _, rfl, _⟩ := h; rfl) (fun cdv A outer s H vs Q E pl hc hr h => ?_)
  obtain ⟨sa, ns, rfl, hs, hl, hb, ht, q⟩ := h
  refine ⟨_, (pss_cons (ps_set (i := 1) sc_law.nd rfl (Or.inl rfl) (pe_go (ok__law_pen T hS) (hr.mono (by decide)) (pl := []) (fun _ h => nomatch h) (by rfl) T.g__law_pen T.F__law_pen.kp T.b__law_pen lets0 (pa_cons (pv 0) pa_nil)))
      (pss_cons (ps_for (passes_of rfl) rfl (pi_range1 rfl T.n_range (pa_cons pe_int pa_nil)) (pg_name (i := 2) sc_law.nd rfl (Or.inl rfl)) (pss_cons (ps_par (i := 3) (j := 4) rfl sc_law.nd rfl rfl (by decide) rfl rfl (pa_cons (pe_go (ok__law_drawn_base T hS) (hr.mono (by decide)) (pl := []) (fun _ h => nomatch h) (by rfl) T.g__law_drawn_base T.F__law_drawn_base.kp T.b__law_drawn_base lets0 (pa_cons (pv 1) pa_nil)) (pa_cons (pe_op op_mulG (pe_op op_addG pe_int (pe_go (ok__law_draw T hS) (hr.mono (by decide)) (pl := []) (fun _ h => nomatch h) (by rfl) T.g__law_draw T.F__law_draw.kp T.b__law_draw lets0 (pa_cons (pv 1) (pa_cons (pe_go (ok__law_pick T hS) (hr.mono (by decide)) (pl := []) (fun _ h => nomatch h) (by rfl) T.g__law_pick T.F__law_pick.kp T.b__law_pick lets0 (pa_cons (pv 1) (pa_cons (pe_lst (pa_cons pe_int (pa_cons pe_int pa_nil))) pa_nil))) pa_nil)))) (pe_go (ok__law_pick T hS) (hr.mono (by decide)) (pl := []) (fun _ h => nomatch h) (by rfl) T.g__law_pick T.F__law_pick.kp T.b__law_pick lets0 (pa_cons (pv 1) (pa_cons (pe_lst (pa_cons pe_int (pa_cons (pe_un un_neg pe_int) pa_nil))) pa_nil)))) pa_nil)) rfl)
      (pss_cons (ps_set (i := 5) sc_law.nd rfl (Or.inl rfl) (pe_op op_addG pe_int (pe_go (ok__law_draw T hS) (hr.mono (by decide)) (pl := []) (fun _ h => nomatch h) (by rfl) T.g__law_draw T.F__law_draw.kp T.b__law_draw lets0 (pa_cons (pv 1) (pa_cons pe_int pa_nil)))))
      (pss_cons (ps_if (pt_not (pt_val (pe_go (ok__law_is T hS) (hr.mono (by decide)) (pl := []) (fun _ h => nomatch h) (by rfl) T.g__law_is T.F__law_is.kp T.b__law_is lets0 (pa_cons (pe_go (ok_fundamental_of T hS) (hr.mono (by decide)) (pl := []) (fun _ h => nomatch h) (by rfl) T.g_fundamental_of T.F_fundamental_of.kp T.b_fundamental_of lets0 (pa_cons (pv 4) pa_nil)) (pa_cons (pe_go (ok__law_fundamental T hS) (hr.mono (by decide)) (pl := []) (fun _ h => nomatch h) (by rfl) T.g__law_fundamental T.F__law_fundamental.kp T.b__law_fundamental lets0 (pa_cons (pv 4) pa_nil)) pa_nil))))) (pss_one (ps_ret pe_bl)) pss_nil)
      (pss_cons (ps_if (PW.pt (pw_or (pt_cmpR (op_neG hr.hu) (pe_go (ok_fundamental_of T hS) (hr.mono (by decide)) (pl := []) (fun _ h => nomatch h) (by rfl) T.g_fundamental_of T.F_fundamental_of.kp T.b_fundamental_of lets0 (pa_cons (pe_op op_mulG (pe_op op_mulG (pv 4) (pv 5)) (pv 5)) pa_nil)) (pe_go (ok__law_fundamental T hS) (hr.mono (by decide)) (pl := []) (fun _ h => nomatch h) (by rfl) T.g__law_fundamental T.F__law_fundamental.kp T.b__law_fundamental lets0 (pa_cons (pv 4) pa_nil)) (nomark _)) (pw_or1 (pt_cmpR (op_neG hr.hu) (pe_go (ok_fundamental_of T hS) (hr.mono (by decide)) (pl := []) (fun _ h => nomatch h) (by rfl) T.g_fundamental_of T.F_fundamental_of.kp T.b_fundamental_of lets0 (pa_cons (pv 3) pa_nil)) (pv 3) (nomark _))))) (pss_one (ps_ret pe_bl)) pss_nil)
      (pss_cons (ps_par (i := 6) (j := 7) rfl sc_law.nd rfl rfl (by decide) rfl rfl (pa_cons (pe_op op_addG pe_int (pe_go (ok__law_draw T hS) (hr.mono (by decide)) (pl := []) (fun _ h => nomatch h) (by rfl) T.g__law_draw T.F__law_draw.kp T.b__law_draw lets0 (pa_cons (pv 1) (pa_cons pe_int pa_nil)))) (pa_cons (pe_op op_addG pe_int (pe_go (ok__law_draw T hS) (hr.mono (by decide)) (pl := []) (fun _ h => nomatch h) (by rfl) T.g__law_draw T.F__law_draw.kp T.b__law_draw lets0 (pa_cons (pv 1) (pa_cons pe_int pa_nil)))) pa_nil)) rfl)
      (pss_cons (ps_if (pt_not (pt_val (pe_go (ok__law_is T hS) (hr.mono (by decide)) (pl := []) (fun _ h => nomatch h) (by rfl) T.g__law_is T.F__law_is.kp T.b__law_is lets0 (pa_cons (pe_go (ok_mark_of T hS) (hr.mono (by decide)) (pl := []) (fun _ h => nomatch h) (by rfl) T.g_mark_of T.F_mark_of.kp T.b_mark_of lets0 (pa_cons (pv 3) (pa_cons (pv 6) pa_nil))) (pa_cons (pe_go (ok__law_mark T hS) (hr.mono (by decide)) (pl := []) (fun _ h => nomatch h) (by rfl) T.g__law_mark T.F__law_mark.kp T.b__law_mark lets0 (pa_cons (pv 3) (pa_cons (pv 6) pa_nil))) pa_nil))))) (pss_one (ps_ret pe_bl)) pss_nil)
      (pss_cons (ps_if (pt_cmpR (op_neG hr.hu) (pe_go (ok_mark_of T hS) (hr.mono (by decide)) (pl := []) (fun _ h => nomatch h) (by rfl) T.g_mark_of T.F_mark_of.kp T.b_mark_of lets0 (pa_cons (pv 3) (pa_cons (pe_op op_mulG (pv 6) (pv 7)) pa_nil))) (pe_op op_mulG (pe_go (ok_mark_of T hS) (hr.mono (by decide)) (pl := []) (fun _ h => nomatch h) (by rfl) T.g_mark_of T.F_mark_of.kp T.b_mark_of lets0 (pa_cons (pv 3) (pa_cons (pv 6) pa_nil))) (pe_go (ok_mark_of T hS) (hr.mono (by decide)) (pl := []) (fun _ h => nomatch h) (by rfl) T.g_mark_of T.F_mark_of.kp T.b_mark_of lets0 (pa_cons (pv 3) (pa_cons (pv 7) pa_nil)))) (nomark _)) (pss_one (ps_ret pe_bl)) pss_nil)
      (pss_cons (ps_if (pt_cmpR (op_neG hr.hu) (pe_go (ok_mark_of T hS) (hr.mono (by decide)) (pl := []) (fun _ h => nomatch h) (by rfl) T.g_mark_of T.F_mark_of.kp T.b_mark_of lets0 (pa_cons (pv 3) (pa_cons (pe_op op_addG (pv 6) (pe_callB call_absV (by rfl) T.n_abs (by decide +kernel) (pa_cons (pv 3) pa_nil))) pa_nil))) (pe_go (ok_mark_of T hS) (hr.mono (by decide)) (pl := []) (fun _ h => nomatch h) (by rfl) T.g_mark_of T.F_mark_of.kp T.b_mark_of lets0 (pa_cons (pv 3) (pa_cons (pv 6) pa_nil))) (nomark _)) (pss_one (ps_ret pe_bl)) pss_nil)
      (pss_cons (ps_if (pt_cmpR op_lt (pe_callB call_absV (by rfl) T.n_abs (by decide +kernel) (pa_cons (pv 3) pa_nil)) pe_int (nomark _)) (pss_cons (ps_for (passes_of rfl) rfl (pi_seq (pe_tup (pa_cons pe_int (pa_cons pe_int pa_nil)))) (pg_name (i := 8) sc_law.nd rfl (Or.inl rfl)) (pss_cons (ps_set (i := 9) sc_law.nd rfl (Or.inl rfl) (pe_go (ok__law_sum T hS) (hr.mono (by decide)) (pl := []) (fun _ h => nomatch h) (by rfl) T.g__law_sum T.F__law_sum.kp T.b__law_sum lets0 (pa_cons (pv 3) (pa_cons (pv 8) pa_nil))))
      (pss_one (ps_if (PW.pt (pw_or (pt_not (pt_val (pe_go (ok__law_is T hS) (hr.mono (by decide)) (pl := []) (fun _ h => nomatch h) (by rfl) T.g__law_is T.F__law_is.kp T.b__law_is lets0 (pa_cons (pe_go (ok_bernoulli_of T hS) (hr.mono (by decide)) (pl := []) (fun _ h => nomatch h) (by rfl) T.g_bernoulli_of T.F_bernoulli_of.kp T.b_bernoulli_of lets0 (pa_cons (pv 3) (pa_cons (pv 8) pa_nil))) (pa_cons (pv 9) pa_nil))))) (pw_or1 (pt_cmpR (op_neG hr.hu) (pe_cmpR (op_eqG hr.hu) (pv 9) pe_int (nomark _)) (pe_ifExp (pt_cmpR (op_eqG hr.hu) (pv 8) pe_int (nomark _)) (pe_cmpR op_lt (pv 3) pe_int (nomark _)) (pe_cmpR op_gt (pv 3) pe_int (nomark _))) (nomark _))))) (pss_one (ps_ret pe_bl)) pss_nil))))
      (pss_one (ps_if (PW.pt (pw_and (pt_cmpR op_lt (pv 3) (pe_un un_neg pe_int) (nomark _)) (pw_and1 (pt_cmpR (op_neG hr.hu) (pe_go (ok_bernoulli_of T hS) (hr.mono (by decide)) (pl := []) (fun _ h => nomatch h) (by rfl) T.g_bernoulli_of T.F_bernoulli_of.kp T.b_bernoulli_of lets0 (pa_cons (pv 3) (pa_cons pe_int pa_nil))) (pe_op op_sub pe_int (pe_go (ok__law_classes T hS) (hr.mono (by decide)) (pl := []) (fun _ h => nomatch h) (by rfl) T.g__law_classes T.F__law_classes.kp T.b__law_classes lets0 (pa_cons (pv 3) pa_nil))) (nomark _))))) (pss_one (ps_ret pe_bl)) pss_nil))) pss_nil)
      (pss_one (ps_if (pt_not (pt_val (pe_go (ok__law_refused T hS) (hr.mono (by decide)) (pl := []) (fun _ h => nomatch h) (by rfl) T.g__law_refused T.F__law_refused.kp T.b__law_refused lets0 (pa_cons (pv 1) (pa_cons (pv 3) pa_nil))))) (pss_one (ps_ret pe_bl)) pss_nil))))))))))))
      (pss_one (ps_ret (pe_and (pe_go (ok__law_is T hS) (hr.mono (by decide)) (pl := []) (fun _ h => nomatch h) (by rfl) T.g__law_is T.F__law_is.kp T.b__law_is lets0 (pa_cons (pe_go (ok_bernoulli_of T hS) (hr.mono (by decide)) (pl := []) (fun _ h => nomatch h) (by rfl) T.g_bernoulli_of T.F_bernoulli_of.kp T.b_bernoulli_of lets0 (pa_cons (pe_un un_neg pe_int) (pa_cons pe_int pa_nil))) (pa_cons (pe_tup (pa_cons (pe_un un_neg pe_int) (pa_cons pe_int pa_nil))) pa_nil))) (pe_and (pe_go (ok__law_is T hS) (hr.mono (by decide)) (pl := []) (fun _ h => nomatch h) (by rfl) T.g__law_is T.F__law_is.kp T.b__law_is lets0 (pa_cons (pe_go (ok_bernoulli_of T hS) (hr.mono (by decide)) (pl := []) (fun _ h => nomatch h) (by rfl) T.g_bernoulli_of T.F_bernoulli_of.kp T.b_bernoulli_of lets0 (pa_cons pe_int (pa_cons pe_int pa_nil))) (pa_cons (pe_tup (pa_cons pe_int (pa_cons pe_int pa_nil))) pa_nil))) (pe_and (pe_go (ok__law_is T hS) (hr.mono (by decide)) (pl := []) (fun _ h => nomatch h) (by rfl) T.g__law_is T.F__law_is.kp T.b__law_is lets0 (pa_cons (pe_go (ok_mark_of T hS) (hr.mono (by decide)) (pl := []) (fun _ h => nomatch h) (by rfl) T.g_mark_of T.F_mark_of.kp T.b_mark_of lets0 (pa_cons (pe_un un_neg pe_int) (pa_cons pe_int pa_nil))) (pa_cons (pe_un un_neg pe_int) pa_nil))) (pe_one (pe_go (ok__law_is T hS) (hr.mono (by decide)) (pl := []) (fun _ h => nomatch h) (by rfl) T.g__law_is T.F__law_is.kp T.b__law_is lets0 (pa_cons (pe_go (ok_fundamental_of T hS) (hr.mono (by decide)) (pl := []) (fun _ h => nomatch h) (by rfl) T.g_fundamental_of T.F_fundamental_of.kp T.b_fundamental_of lets0 (pa_cons (pe_un un_neg pe_int) pa_nil)) (pa_cons (pe_un un_neg pe_int) pa_nil))))))))))), ?_⟩
  have ht2 : ∀ p ∈ tbq a, H p.1 = some (.tbl #[]) := fun p hp => by
    simp only [tbq, List.mem_cons, List.not_mem_nil, or_false] at hp
    subst hp
    exact ht (a.cc__law_refused, a.tb__law_refused) (by simp [tbs])
  refine law_startT (n := 8) (T := tbq a) rfl hs hl hb ht2 (fun b hbT => ?_) q
  refine ds_seq (ds_forR1 (da_cons (de_int (da_nil ⟨3, rfl, by decide, by decide, fun i ρ => ∃ s2 s3 s4 s5 s6 s7 s8 s9, ρ = [.no, .pen, s2, s3, s4, s5, s6, s7, s8, s9], ⟨.no, .no, .no, .no, .no, .no, .no, .no, rfl⟩, fun i ρ hi h => ?_, fun ρ h => ?_⟩))))
  · obtain ⟨s2, s3, s4, s5, s6, s7, s8, s9, rfl⟩ := h
    refine dg_name (ds_seq (ds_par (da_cons (de_call EL.no (dc_pen rfl (dc_nil ⟨rfl, fun x hx => ?_⟩))))))
    refine da_cons (de_II (de_addI (de_int (de_call EL.no (dc_pen rfl (dc_cons (de_call EL.no (dc_pen rfl (dc_cons (de_lst (da_cons (de_int (da_cons (de_int (da_nil ⟨by simp, dc_nil ⟨_, _, rfl, rfl, (fun z => nomatch z), by simp, fun m hm => ?_⟩⟩)))))))))))))))
    have hm' : ∃ j : Int, m = .int j ∧ 0 < j ∧ j ≤ 30000 := by
      simp only [List.mem_cons, List.not_mem_nil, or_false] at hm
      rcases hm with rfl | rfl
      · exact ⟨_, rfl, by decide, by decide⟩
      · exact ⟨_, rfl, by decide, by decide⟩
    obtain ⟨m, rfl, m0, m1⟩ := hm'
    refine dc_nil ⟨m, rfl, m0, draw_ok (by omega) (by omega), fun k k0 k1 => ⟨1, k, rfl, rfl, ?_⟩⟩
    refine de_call EL.no (dc_pen rfl (dc_cons (de_lst (da_cons (de_int (da_cons (de_un (de_int ⟨1, rfl, da_nil ⟨by simp, dc_nil ⟨_, _, rfl, rfl, (fun z => nomatch z), by simp, fun d hd => ?_⟩⟩⟩))))))))
    have hd' : ∃ sg : Int, d = .int sg ∧ (sg = 1 ∨ sg = -1) := by
      simp only [List.mem_cons, List.not_mem_nil, or_false] at hd
      rcases hd with rfl | rfl
      · exact ⟨_, rfl, Or.inl rfl⟩
      · exact ⟨_, rfl, Or.inr rfl⟩
    obtain ⟨sg, rfl, hsg⟩ := hd'
    refine ⟨1 + k, sg, rfl, rfl, mo (by omega) (by rcases hsg with rfl | rfl <;> decide), da_nil ⟨_, _, rfl, ?_⟩⟩
    have y0 : (1 + k) * sg ≠ 0 := by rcases hsg with rfl | rfl <;> omega
    have yl : ((1 + k) * sg).natAbs ≤ 30000 := by rcases hsg with rfl | rfl <;> omega
    generalize (1 + k) * sg = y at y0 yl
    have fx := hx.fui
    have lx := hx.le
    have x0 := fx.1
    refine ds_seq (ds_asg (de_addI (de_int (de_call EL.no (dc_pen rfl (dc_cons (de_int (dc_nil ⟨100, rfl, by decide, draw_ok (by decide) (by decide), fun j j0 j1 => ⟨1, j, rfl, rfl, ?_⟩⟩))))))))
    have q0 : 0 < 1 + j := by omega
    have q1 : 1 + j ≤ 100 := by omega
    generalize 1 + j = sq at q0 q1
    refine ds_seq (ds_if (dt_not (dt_test (de_call EL.no (dc_cons (de_call EL.no (dc_cons (de_var rfl (dc_nil ⟨.int y, rfl, ⟨_, rfl⟩, Or.inl ⟨y, rfl, y0, by omega, fun s hs => ?_⟩⟩)))))))))
    refine dc_cons (de_call EL.no (dc_cons (de_var rfl (dc_nil ⟨y, rfl, y0, by omega, fun s' hs' => dc_nil ⟨.int (fuZ (sgZ y s)), by rw [hs'.uniq (by omega) hs], Or.inl ⟨_, rfl⟩, true, rfl, iteF (ds_next ?_)⟩⟩))))
    have yq : (y * sq).natAbs ≤ 30000 * 100 := mul_le' yl (by omega)
    have yqq : (y * sq * sq).natAbs ≤ 30000 * 100 * 100 := mul_le' yq (by omega)
    have yn : y * sq * sq ≠ 0 := Int.mul_ne_zero (Int.mul_ne_zero y0 (by omega)) (by omega)
    have yu : SqF (y * sq * sq).natAbs s := by
      rw [Int.natAbs_mul, Int.natAbs_mul, Nat.mul_assoc]
      exact hs.up _
    refine ds_seq (ds_if (dt_or (dt_test (de_neI (de_call EL.no (dc_cons (de_II (de_II (de_var rfl (de_var rfl ⟨y, sq, rfl, rfl, mo (by omega) (by omega), de_var rfl ⟨_, sq, rfl, rfl, mo (by omega) (by omega), ?_⟩⟩))))))))))
    refine dc_nil ⟨.int _, rfl, ⟨_, rfl⟩, Or.inl ⟨_, rfl, yn, by omega, fun s1 h1 => de_call EL.no (dc_cons (de_var rfl (dc_nil ⟨y, rfl, y0, by omega, fun s2 h2 => ⟨_, _, rfl, rfl, false, ?_, iteF ?_⟩⟩)))⟩⟩
    · rw [h1.uniq (by omega) yu, h2.uniq (by omega) hs, sgZ_up y q0, decide_eq_true rfl] <;> rfl
    obtain ⟨_, sx, hsx, ex⟩ := fx
    refine dt_test (de_neI (de_call EL.no (dc_cons (de_var rfl (dc_nil ⟨.int x, rfl, ⟨_, rfl⟩, Or.inl ⟨x, rfl, x0, by omega, fun s3 h3 => de_var rfl ⟨_, x, rfl, rfl, false, ?_, iteF (ds_next ?_)⟩⟩⟩)))))
    · rw [h3.uniq (by omega) hsx, ex, decide_eq_true rfl] <;> rfl
    have fx := hx.fui
    refine ds_seq (ds_par (da_cons (de_addI (de_int (de_call EL.no (dc_pen rfl (dc_cons (de_int (dc_nil ⟨400, rfl, by decide, draw_ok (by decide) (by decide), fun o o0 o1 => ⟨1, o, rfl, rfl, ?_⟩⟩)))))))))
    refine da_cons (de_addI (de_int (de_call EL.no (dc_pen rfl (dc_cons (de_int (dc_nil ⟨60, rfl, by decide, draw_ok (by decide) (by decide), fun r r0 r1 => ⟨1, r, rfl, rfl, da_nil ⟨_, _, rfl, ?_⟩⟩⟩)))))))
    obtain ⟨o, rfl⟩ := Int.eq_ofNat_of_zero_le o0
    obtain ⟨r, rfl⟩ := Int.eq_ofNat_of_zero_le r0
    rw [show (1 : Int) + (o : Int) = ((o + 1 : Nat) : Int) by omega, show (1 : Int) + (r : Int) = ((r + 1 : Nat) : Int) by omega]
    have n0 : 0 < o + 1 := by omega
    have n1 : o + 1 ≤ 400 := by omega
    have u0 : 0 < r + 1 := by omega
    have u1 : r + 1 ≤ 60 := by omega
    generalize o + 1 = n at n0 n1
    generalize r + 1 = u at u0 u1
    refine ds_seq (ds_if (dt_not (dt_test (de_call EL.no (dc_cons (de_call EL.no (dc_cons (de_var rfl (dc_cons (de_var rfl (dc_nil ⟨.int x, .int n, rfl, ⟨_, rfl⟩, ⟨_, rfl⟩, NM.good fx lx (Or.inl ⟨n, rfl, n0, by omega, x, rfl, ?_⟩)⟩)))))))))))
    refine dc_cons (de_call EL.no (dc_cons (de_var rfl (dc_cons (de_var rfl (dc_nil ⟨x, n, rfl, n0, n1, dc_nil ⟨_, rfl, Or.inl ⟨_, rfl⟩, true, rfl, iteF (ds_next ?_)⟩⟩))))))
    have nu : n * u ≤ 24000 := Nat.mul_le_mul n1 u1
    have g1 := mk1 x n
    have g2 := mk1 x u
    refine ds_seq (ds_if (dt_test (de_neI (de_call EL.no (dc_cons (de_var rfl (dc_cons (de_II (de_var rfl (de_var rfl ⟨n, u, rfl, rfl, mo (by omega) (by omega), ?_⟩))))))))))
    refine dc_nil ⟨.int x, .int ((n : Int) * u), rfl, ⟨_, rfl⟩, ⟨_, rfl⟩, NM.good fx lx (Or.inl ⟨n * u, by rw [Int.natCast_mul], Nat.mul_pos n0 u0, by omega, x, rfl, ?_⟩)⟩
    refine de_II (de_call EL.no (dc_cons (de_var rfl (dc_cons (de_var rfl (dc_nil ⟨.int x, .int n, rfl, ⟨_, rfl⟩, ⟨_, rfl⟩, NM.good fx lx (Or.inl ⟨n, rfl, n0, by omega, x, rfl, ?_⟩)⟩))))))
    refine de_call EL.no (dc_cons (de_var rfl (dc_cons (de_var rfl (dc_nil ⟨.int x, .int u, rfl, ⟨_, rfl⟩, ⟨_, rfl⟩, NM.good fx lx (Or.inl ⟨u, rfl, u0, by omega, x, rfl, _, _, rfl, rfl, mo (by omega) (by omega), _, _, rfl, rfl, false, ?_, iteF (ds_next ?_)⟩)⟩)))))
    · rw [mk_mul (pmk x) n n u (Nat.le_refl _) n0 u0, decide_eq_true rfl] <;> rfl
    refine ds_seq (ds_if (dt_test (de_neI (de_call EL.no (dc_cons (de_var rfl (dc_cons (de_addI (de_var rfl (de_abs (de_var rfl ⟨x, rfl, n, _, rfl, rfl, ?_⟩)))))))))))
    rw [abs_if]
    refine dc_nil ⟨.int x, .int ((n : Int) + (x.natAbs : Nat)), rfl, ⟨_, rfl⟩, ⟨_, rfl⟩, NM.good fx lx (Or.inl ⟨n + x.natAbs, by rw [Int.natCast_add], by omega, by omega, x, rfl, ?_⟩)⟩
    refine de_call EL.no (dc_cons (de_var rfl (dc_cons (de_var rfl (dc_nil ⟨.int x, .int n, rfl, ⟨_, rfl⟩, ⟨_, rfl⟩, NM.good fx lx (Or.inl ⟨n, rfl, n0, by omega, x, rfl, _, _, rfl, rfl, false, ?_, iteF (ds_next ?_)⟩)⟩)))))
    · obtain ⟨e, he, rfl⟩ := hx
      rw [mk_round he n0 n1, decide_eq_true rfl] <;> rfl
    refine ds_seq (DS.mid (mid := fun ρ => ∃ s2 s4 s5 s6 s7 s8 s9, ρ = [.no, .pen, s2, .sh (.int x), s4, s5, s6, s7, s8, s9]) ?_ fun ρ h => ?_)
    · refine ds_if (dt_test (de_B0 (de_abs (de_var rfl ⟨x, rfl, de_int ⟨_, 400, rfl, rfl, _, rfl, ?_⟩⟩))))
      rw [abs_if]
      by_cases hl4 : x.natAbs < 400
      · rw [decide_eq_true (by omega)]
        refine iteT (ds_seq (ds_forI (di_seq (Q := fun _ => True) (de_tup (da_cons (de_int (da_cons (de_int (da_nil ⟨by simp, _, rfl, fun i ρ => ∃ s2 s4 s5 s6 s7 s8 s9, ρ = [.no, .pen, s2, .sh (.int x), s4, s5, s6, s7, s8, s9], ⟨_, _, _, _, _, _, _, rfl⟩, fun i d ρ hi h => ?_, fun ρ h => ?_⟩)))))))))
        · obtain ⟨s2, s4, s5, s6, s7, s8, s9, rfl⟩ := h
          have hk : ∃ k : Int, d = .int k ∧ (k = 1 ∨ k = 2) := by
            have := List.mem_of_getElem? hi
            simp only [List.mem_cons, List.not_mem_nil, or_false] at this
            rcases this with rfl | rfl
            · exact ⟨_, rfl, Or.inl rfl⟩
            · exact ⟨_, rfl, Or.inr rfl⟩
          obtain ⟨k, rfl, hk⟩ := hk
          refine dg_name (ds_seq (ds_asg (de_call EL.no (dc_cons (de_var rfl (dc_cons (de_var rfl (dc_nil ⟨x, k, rfl, x0, hl4, hk, ?_⟩))))))))
          refine ds_if (dt_or (dt_not (dt_test (de_call EL.no (dc_cons (de_call EL.no (dc_cons (de_var rfl (dc_cons (de_var rfl (dc_nil ⟨.int x, .int k, rfl, ⟨_, rfl⟩, ⟨_, rfl⟩, NM.good fx lx (Or.inl ⟨k, rfl, hk, x, rfl, x0, by omega, ?_⟩)⟩)))))))))))
          refine dc_cons (de_var rfl (dc_nil ⟨BV x k, rfl, BV_shape x k, true, rfl, iteF ?_⟩))
          refine dt_test (de_neA (de_eqA (de_var rfl (de_int ⟨BV_okD x0, okD_int 0, ?_⟩))))
          rw [BV_zero hx hl4 hk]
          refine de_ite (dt_test (de_eqI (de_var rfl (de_int ⟨k, 2, rfl, rfl, _, rfl, ?_⟩))))
          by_cases k2 : k = 2
          · rw [decide_eq_true k2, if_pos k2]
            refine iteT (de_B0 (de_var rfl (de_int ⟨x, 0, rfl, rfl, okD_bl _, okD_bl _, false, ?_, iteF (ds_next ⟨_, _, _, _, _, _, _, rfl⟩)⟩)))
            rw [eqD_bl, beq_self_eq_true] <;> rfl
          · rw [decide_eq_false k2, if_neg k2]
            refine iteF (de_B0 (de_var rfl (de_int ⟨x, 1, rfl, rfl, okD_bl _, okD_bl _, false, ?_, iteF (ds_next ⟨_, _, _, _, _, _, _, rfl⟩)⟩)))
            rw [eqD_bl, beq_self_eq_true] <;> rfl
        · obtain ⟨s2, s4, s5, s6, s7, s8, s9, rfl⟩ := h
          refine ds_if (dt_and (dt_test (de_B0 (de_var rfl (de_un (de_int ⟨4, rfl, x, -4, rfl, rfl, _, rfl, ?_⟩))))))
          by_cases h4 : x < -4
          · rw [decide_eq_true h4]
            refine iteT (dt_test (de_neI (de_call EL.no (dc_cons (de_var rfl (dc_cons (de_int (dc_nil ⟨.int x, .int 1, rfl, ⟨_, rfl⟩, ⟨_, rfl⟩, NM.good fx lx (Or.inl ⟨1, rfl, Or.inl rfl, x, rfl, x0, by omega, ?_⟩)⟩))))))))
            refine de_I0 (de_int (de_call EL.no (dc_cons (de_var rfl (dc_nil ⟨x.natAbs, ?_, by omega, hl4, 0, _, rfl, rfl, _, _, BV_cls hx hl4 h4, rfl, false, ?_, iteF (ds_next ⟨_, _, _, _, _, _, _, rfl⟩)⟩)))))
            · rw [show -((x.natAbs : Nat) : Int) = x by omega]
            · rw [decide_eq_true rfl] <;> rfl
          · rw [decide_eq_false h4]
            exact iteF (iteF (ds_next ⟨_, _, _, _, _, _, _, rfl⟩))
      · rw [decide_eq_false (by omega)]
        exact iteF (ds_next ⟨_, _, _, _, _, _, _, rfl⟩)
    obtain ⟨s2, s4, s5, s6, s7, s8, s9, rfl⟩ := h
    exact ds_if (dt_not (dt_test (de_callT hbT EL.no (dc_pen rfl (dc_cons (de_var rfl (dc_nil ⟨x, rfl, hx, true, rfl, iteF (ds_next ⟨_, _, _, _, _, _, _, _, rfl⟩)⟩)))))))
  · obtain ⟨s2, s3, s4, s5, s6, s7, s8, s9, rfl⟩ := h
    have f4 := bas4.fui
    have f5 := bas5.fui
    refine ds_ret (de_andV (de_call EL.no (dc_cons (de_call EL.no (dc_cons (de_un (de_int ⟨4, rfl, dc_cons (de_int (dc_nil ⟨.int (-4), .int 1, rfl, ⟨_, rfl⟩, ⟨_, rfl⟩, NM.good f4 (by decide) (Or.inl ⟨1, rfl, Or.inl rfl, -4, rfl, by decide, by decide, ?_⟩)⟩))⟩)))))))
    refine dc_cons (de_tup (da_cons (de_un (de_int ⟨1, rfl, da_cons (de_int (da_nil ⟨by simp, dc_nil ⟨_, by rw [bv41], Or.inr ⟨_, _, rfl⟩, true, rfl, iteT ?_⟩⟩))⟩))))
    refine de_andV (de_call EL.no (dc_cons (de_call EL.no (dc_cons (de_int (dc_cons (de_int (dc_nil ⟨.int 5, .int 2, rfl, ⟨_, rfl⟩, ⟨_, rfl⟩, NM.good f5 (by decide) (Or.inl ⟨2, rfl, Or.inr rfl, 5, rfl, by decide, by decide, ?_⟩)⟩))))))))
    refine dc_cons (de_tup (da_cons (de_int (da_cons (de_int (da_nil ⟨by simp, dc_nil ⟨_, by rw [bv52], Or.inr ⟨_, _, rfl⟩, true, rfl, iteT ?_⟩⟩))))))
    refine de_andV (de_call EL.no (dc_cons (de_call EL.no (dc_cons (de_un (de_int ⟨4, rfl, dc_cons (de_int (dc_nil ⟨.int (-4), .int 3, rfl, ⟨_, rfl⟩, ⟨_, rfl⟩, NM.good f4 (by decide) (Or.inl ⟨3, rfl, by decide, by decide, -4, rfl, ?_⟩)⟩))⟩))))))
    refine dc_cons (de_un (de_int ⟨1, rfl, dc_nil ⟨_, by rw [mk43], Or.inl ⟨_, rfl⟩, true, rfl, iteT ?_⟩⟩))
    refine de_call EL.no (dc_cons (de_call EL.no (dc_cons (de_un (de_int ⟨72, rfl, dc_nil ⟨.int (-72), rfl, ⟨_, rfl⟩, Or.inl ⟨-72, rfl, by decide, by decide, fun s hs => ?_⟩⟩⟩)))))
    have e : s = 2 := hs.uniq (by decide) (sqf_dec (k := 6) (b := 2) (by decide) (by decide) (by decide) (by decide))
    subst e
    exact dc_cons (de_un (de_int ⟨8, rfl, dc_nil ⟨.int (-8), rfl, Or.inl ⟨_, rfl⟩, rfl⟩⟩))
end
end Law

set_option Elab.async false
set_option linter.all false
set_option maxRecDepth 100000
set_option maxHeartbeats 4000000
namespace Law
open PySem PySem.Spec PyProof.Rows L2 G
theorem all_mk {K : PySem.W.Frag} {h : Heap} {mg : Str → Option Value} {fa : Addr} (X : K.In h) (G : h.Ns mainGlobals mg) (hfa : mg "law" = some (.ref fa))
    {f0 : Addr} {od0 an0 : Option Addr} {sl0 : Array (Option Value)} {oc0 kV0 dc0 pm0 ct0 : Value}
    {cd0 : Value}
    {f1 : Addr} {od1 an1 : Option Addr} {sl1 : Array (Option Value)} {oc1 kV1 dc1 pm1 ct1 : Value}
    {cd1 : Value}
    {f2 : Addr} {od2 an2 : Option Addr} {sl2 : Array (Option Value)} {oc2 kV2 dc2 pm2 ct2 : Value}
    {cd2 : Value}
    {f3 : Addr} {od3 an3 : Option Addr} {sl3 : Array (Option Value)} {oc3 kV3 dc3 pm3 ct3 : Value}
    {cd3 : Value}
    {f4 : Addr} {od4 an4 : Option Addr} {sl4 : Array (Option Value)} {oc4 kV4 dc4 pm4 ct4 : Value}
    {cd4 : Value}
    {f5 : Addr} {od5 an5 : Option Addr} {sl5 : Array (Option Value)} {oc5 kV5 dc5 pm5 ct5 : Value}
    {cd5 : Value}
    {f6 : Addr} {od6 an6 : Option Addr} {sl6 : Array (Option Value)} {oc6 kV6 dc6 pm6 ct6 : Value}
    {cd6 : Value}
    {f7 : Addr} {od7 an7 : Option Addr} {sl7 : Array (Option Value)} {oc7 kV7 dc7 pm7 ct7 : Value}
    {cd7 : Value}
    {f8 : Addr} {od8 an8 : Option Addr} {sl8 : Array (Option Value)} {oc8 kV8 dc8 pm8 ct8 : Value}
    {cd8 : Value}
    {f9 : Addr} {od9 an9 : Option Addr} {sl9 : Array (Option Value)} {oc9 kV9 dc9 pm9 ct9 : Value}
    {cd9 : Value}
    {f10 : Addr} {od10 an10 : Option Addr} {sl10 : Array (Option Value)} {oc10 kV10 dc10 pm10 ct10 : Value}
    {cd10 : Value}
    {f11 : Addr} {od11 an11 : Option Addr} {sl11 : Array (Option Value)} {oc11 kV11 dc11 pm11 ct11 : Value}
    {cd11 : Value}
    {f12 : Addr} {od12 an12 : Option Addr} {sl12 : Array (Option Value)} {oc12 kV12 dc12 pm12 ct12 : Value}
    {cd12 : Value}
    {f13 : Addr} {od13 an13 : Option Addr} {sl13 : Array (Option Value)} {oc13 kV13 dc13 pm13 ct13 : Value}
    {cd13 : Value}
    {f14 : Addr} {od14 an14 : Option Addr} {sl14 : Array (Option Value)} {oc14 kV14 dc14 pm14 ct14 : Value}
    {cd14 : Value}
    {f15 : Addr} {od15 an15 : Option Addr} {sl15 : Array (Option Value)} {oc15 kV15 dc15 pm15 ct15 : Value}
    {cd15 : Value}
    {f16 : Addr} {od16 an16 : Option Addr} {sl16 : Array (Option Value)} {oc16 kV16 dc16 pm16 ct16 : Value}
    {cd16 : Value}
    {f17 : Addr} {od17 an17 : Option Addr} {sl17 : Array (Option Value)} {oc17 kV17 dc17 pm17 ct17 : Value}
    {cd17 : Value}
    {f18 : Addr} {od18 an18 : Option Addr} {sl18 : Array (Option Value)} {oc18 kV18 dc18 pm18 ct18 : Value}
    {cd18 : Value}
    {f19 : Addr} {od19 an19 : Option Addr} {sl19 : Array (Option Value)} {oc19 kV19 dc19 pm19 ct19 : Value}
    {cd19 : Value}
    {f20 : Addr} {od20 an20 : Option Addr} {sl20 : Array (Option Value)} {oc20 kV20 dc20 pm20 ct20 : Value}
    {cd20 : Value}
    {f21 : Addr} {od21 an21 : Option Addr} {sl21 : Array (Option Value)} {oc21 kV21 dc21 pm21 ct21 : Value}
    {cd21 : Value}
    {f22 : Addr} {od22 an22 : Option Addr} {sl22 : Array (Option Value)} {oc22 kV22 dc22 pm22 ct22 : Value}
    {cd22 : Value}
    {f23 : Addr} {od23 an23 : Option Addr} {sl23 : Array (Option Value)} {oc23 kV23 dc23 pm23 ct23 : Value}
    {cd23 : Value}
    {f24 : Addr} {od24 an24 : Option Addr} {sl24 : Array (Option Value)} {oc24 kV24 dc24 pm24 ct24 : Value}
    {cd24 : Value}
    {f25 : Addr} {od25 an25 : Option Addr} {sl25 : Array (Option Value)} {oc25 kV25 dc25 pm25 ct25 : Value}
    {cd25 : Value}
    {f26 : Addr} {od26 an26 : Option Addr} {sl26 : Array (Option Value)} {oc26 kV26 dc26 pm26 ct26 : Value}
    {cd26 : Value}
    {f27 : Addr} {od27 an27 : Option Addr} {sl27 : Array (Option Value)} {oc27 kV27 dc27 pm27 ct27 : Value}
    {cd27 : Value}
    {f28 : Addr} {od28 an28 : Option Addr} {sl28 : Array (Option Value)} {oc28 kV28 dc28 pm28 ct28 : Value}
    {cd28 : Value}
    {f29 : Addr} {od29 an29 : Option Addr} {sl29 : Array (Option Value)} {oc29 kV29 dc29 pm29 ct29 : Value}
    {cd29 : Value}
    {f30 : Addr} {od30 an30 : Option Addr} {sl30 : Array (Option Value)} {oc30 kV30 dc30 pm30 ct30 : Value}
    {cd30 : Value}
    {f31 : Addr} {od31 an31 : Option Addr} {sl31 : Array (Option Value)} {oc31 kV31 dc31 pm31 ct31 : Value}
    {cd31 : Value}
    {f32 : Addr} {od32 an32 : Option Addr} {sl32 : Array (Option Value)} {oc32 kV32 dc32 pm32 ct32 : Value}
    {cd32 : Value}
    {f33 : Addr} {od33 an33 : Option Addr} {sl33 : Array (Option Value)} {oc33 kV33 dc33 pm33 ct33 : Value}
    {cd33 : Value}
    {f34 : Addr} {od34 an34 : Option Addr} {sl34 : Array (Option Value)} {oc34 kV34 dc34 pm34 ct34 : Value}
    {cd34 : Value}
    {f35 : Addr} {od35 an35 : Option Addr} {sl35 : Array (Option Value)} {oc35 kV35 dc35 pm35 ct35 : Value}
    {cd35 : Value}
    {f36 : Addr} {od36 an36 : Option Addr} {sl36 : Array (Option Value)} {oc36 kV36 dc36 pm36 ct36 : Value}
    {cd36 : Value}
    {f37 : Addr} {od37 an37 : Option Addr} {sl37 : Array (Option Value)} {oc37 kV37 dc37 pm37 ct37 : Value}
    {cd37 : Value}
    {f38 : Addr} {od38 an38 : Option Addr} {sl38 : Array (Option Value)} {oc38 kV38 dc38 pm38 ct38 : Value}
    {cd38 : Value}
    {f39 : Addr} {od39 an39 : Option Addr} {sl39 : Array (Option Value)} {oc39 kV39 dc39 pm39 ct39 : Value}
    {cd39 : Value}
    {f40 : Addr} {od40 an40 : Option Addr} {sl40 : Array (Option Value)} {oc40 kV40 dc40 pm40 ct40 : Value}
    {cc40 tb40 : Addr} {ec40 : Value} {ed40 : Option Addr} {ev40 : Array Value} {es40 : Array (Option Value)}
    {f41 : Addr} {od41 an41 : Option Addr} {sl41 : Array (Option Value)} {oc41 kV41 dc41 pm41 ct41 : Value}
    {cd41 : Value}
    {kt_MOST_NUMBER : Tok}
    {kt_MOST_MARK : Tok}
    {C_GenusError N_GenusError : Addr} {nm_GenusError q_GenusError : Str} {bs_GenusError sub_GenusError : List Value} {sn_GenusError : List Str} {ab_GenusError : Bool} {col_GenusError : Option Bool} {dd_GenusError : Option Addr} {m0_GenusError m1_GenusError m2_GenusError m3_GenusError m5_GenusError : Option Value}
    {C_BadNumber N_BadNumber : Addr} {nm_BadNumber q_BadNumber : Str} {bs_BadNumber sub_BadNumber : List Value} {sn_BadNumber : List Str} {ab_BadNumber : Bool} {col_BadNumber : Option Bool} {dd_BadNumber : Option Addr} {m0_BadNumber m1_BadNumber m2_BadNumber m3_BadNumber m5_BadNumber : Option Value}
    {I_BadNumber : Addr} {iod_BadNumber ian_BadNumber : Option Addr} {isl_BadNumber : Array (Option Value)} {ioc_BadNumber ikV_BadNumber idc_BadNumber ipm_BadNumber icd_BadNumber ict_BadNumber : Value}
    {C_BadRow N_BadRow : Addr} {nm_BadRow q_BadRow : Str} {bs_BadRow sub_BadRow : List Value} {sn_BadRow : List Str} {ab_BadRow : Bool} {col_BadRow : Option Bool} {dd_BadRow : Option Addr} {m0_BadRow m1_BadRow m2_BadRow m3_BadRow m5_BadRow : Option Value}
    {I_BadRow : Addr} {iod_BadRow ian_BadRow : Option Addr} {isl_BadRow : Array (Option Value)} {ioc_BadRow ikV_BadRow idc_BadRow ipm_BadRow icd_BadRow ict_BadRow : Value}
    {C_BadTable N_BadTable : Addr} {nm_BadTable q_BadTable : Str} {bs_BadTable sub_BadTable : List Value} {sn_BadTable : List Str} {ab_BadTable : Bool} {col_BadTable : Option Bool} {dd_BadTable : Option Addr} {m0_BadTable m1_BadTable m2_BadTable m3_BadTable m5_BadTable : Option Value}
    {I_BadTable : Addr} {iod_BadTable ian_BadTable : Option Addr} {isl_BadTable : Array (Option Value)} {ioc_BadTable ikV_BadTable idc_BadTable ipm_BadTable icd_BadTable ict_BadTable : Value}
    {C_BadForm N_BadForm : Addr} {nm_BadForm q_BadForm : Str} {bs_BadForm sub_BadForm : List Value} {sn_BadForm : List Str} {ab_BadForm : Bool} {col_BadForm : Option Bool} {dd_BadForm : Option Addr} {m0_BadForm m1_BadForm m2_BadForm m3_BadForm m5_BadForm : Option Value}
    {I_BadForm : Addr} {iod_BadForm ian_BadForm : Option Addr} {isl_BadForm : Array (Option Value)} {ioc_BadForm ikV_BadForm idc_BadForm ipm_BadForm icd_BadForm ict_BadForm : Value}
    {C_BadBook N_BadBook : Addr} {nm_BadBook q_BadBook : Str} {bs_BadBook sub_BadBook : List Value} {sn_BadBook : List Str} {ab_BadBook : Bool} {col_BadBook : Option Bool} {dd_BadBook : Option Addr} {m0_BadBook m1_BadBook m2_BadBook m3_BadBook m5_BadBook : Option Value}
    {I_BadBook : Addr} {iod_BadBook ian_BadBook : Option Addr} {isl_BadBook : Array (Option Value)} {ioc_BadBook ikV_BadBook idc_BadBook ipm_BadBook icd_BadBook ict_BadBook : Value}
    {C_BadName N_BadName : Addr} {nm_BadName q_BadName : Str} {bs_BadName sub_BadName : List Value} {sn_BadName : List Str} {ab_BadName : Bool} {col_BadName : Option Bool} {dd_BadName : Option Addr} {m0_BadName m1_BadName m2_BadName m3_BadName m5_BadName : Option Value}
    {I_BadName : Addr} {iod_BadName ian_BadName : Option Addr} {isl_BadName : Array (Option Value)} {ioc_BadName ikV_BadName idc_BadName ipm_BadName icd_BadName ict_BadName : Value}
    {C_BadText N_BadText : Addr} {nm_BadText q_BadText : Str} {bs_BadText sub_BadText : List Value} {sn_BadText : List Str} {ab_BadText : Bool} {col_BadText : Option Bool} {dd_BadText : Option Addr} {m0_BadText m1_BadText m2_BadText m3_BadText m5_BadText : Option Value}
    {I_BadText : Addr} {iod_BadText ian_BadText : Option Addr} {isl_BadText : Array (Option Value)} {ioc_BadText ikV_BadText idc_BadText ipm_BadText icd_BadText ict_BadText : Value}
    {C_NoPlace N_NoPlace : Addr} {nm_NoPlace q_NoPlace : Str} {bs_NoPlace sub_NoPlace : List Value} {sn_NoPlace : List Str} {ab_NoPlace : Bool} {col_NoPlace : Option Bool} {dd_NoPlace : Option Addr} {m0_NoPlace m1_NoPlace m2_NoPlace m3_NoPlace m5_NoPlace : Option Value}
    {I_NoPlace : Addr} {iod_NoPlace ian_NoPlace : Option Addr} {isl_NoPlace : Array (Option Value)} {ioc_NoPlace ikV_NoPlace idc_NoPlace ipm_NoPlace icd_NoPlace ict_NoPlace : Value}
    {C_NoName N_NoName : Addr} {nm_NoName q_NoName : Str} {bs_NoName sub_NoName : List Value} {sn_NoName : List Str} {ab_NoName : Bool} {col_NoName : Option Bool} {dd_NoName : Option Addr} {m0_NoName m1_NoName m2_NoName m3_NoName m5_NoName : Option Value}
    {I_NoName : Addr} {iod_NoName ian_NoName : Option Addr} {isl_NoName : Array (Option Value)} {ioc_NoName ikV_NoName idc_NoName ipm_NoName icd_NoName ict_NoName : Value}
    {C_TakenName N_TakenName : Addr} {nm_TakenName q_TakenName : Str} {bs_TakenName sub_TakenName : List Value} {sn_TakenName : List Str} {ab_TakenName : Bool} {col_TakenName : Option Bool} {dd_TakenName : Option Addr} {m0_TakenName m1_TakenName m2_TakenName m3_TakenName m5_TakenName : Option Value}
    {I_TakenName : Addr} {iod_TakenName ian_TakenName : Option Addr} {isl_TakenName : Array (Option Value)} {ioc_TakenName ikV_TakenName idc_TakenName ipm_TakenName icd_TakenName ict_TakenName : Value}
    {C_Unlike N_Unlike : Addr} {nm_Unlike q_Unlike : Str} {bs_Unlike sub_Unlike : List Value} {sn_Unlike : List Str} {ab_Unlike : Bool} {col_Unlike : Option Bool} {dd_Unlike : Option Addr} {m0_Unlike m1_Unlike m2_Unlike m3_Unlike m5_Unlike : Option Value}
    {I_Unlike : Addr} {iod_Unlike ian_Unlike : Option Addr} {isl_Unlike : Array (Option Value)} {ioc_Unlike ikV_Unlike idc_Unlike ipm_Unlike icd_Unlike ict_Unlike : Value}
    {C_NotThere N_NotThere : Addr} {nm_NotThere q_NotThere : Str} {bs_NotThere sub_NotThere : List Value} {sn_NotThere : List Str} {ab_NotThere : Bool} {col_NotThere : Option Bool} {dd_NotThere : Option Addr} {m0_NotThere m1_NotThere m2_NotThere m3_NotThere m5_NotThere : Option Value}
    {I_NotThere : Addr} {iod_NotThere ian_NotThere : Option Addr} {isl_NotThere : Array (Option Value)} {ioc_NotThere ikV_NotThere idc_NotThere ipm_NotThere icd_NotThere ict_NotThere : Value}
    {C_TooMany N_TooMany : Addr} {nm_TooMany q_TooMany : Str} {bs_TooMany sub_TooMany : List Value} {sn_TooMany : List Str} {ab_TooMany : Bool} {col_TooMany : Option Bool} {dd_TooMany : Option Addr} {m0_TooMany m1_TooMany m2_TooMany m3_TooMany m5_TooMany : Option Value}
    {I_TooMany : Addr} {iod_TooMany ian_TooMany : Option Addr} {isl_TooMany : Array (Option Value)} {ioc_TooMany ikV_TooMany idc_TooMany ipm_TooMany icd_TooMany ict_TooMany : Value}
    {C_NotKept N_NotKept : Addr} {nm_NotKept q_NotKept : Str} {bs_NotKept sub_NotKept : List Value} {sn_NotKept : List Str} {ab_NotKept : Bool} {col_NotKept : Option Bool} {dd_NotKept : Option Addr} {m0_NotKept m1_NotKept m2_NotKept m3_NotKept m5_NotKept : Option Value}
    {I_NotKept : Addr} {iod_NotKept ian_NotKept : Option Addr} {isl_NotKept : Array (Option Value)} {ioc_NotKept ikV_NotKept idc_NotKept ipm_NotKept icd_NotKept ict_NotKept : Value}
    {C_NothingToUndo N_NothingToUndo : Addr} {nm_NothingToUndo q_NothingToUndo : Str} {bs_NothingToUndo sub_NothingToUndo : List Value} {sn_NothingToUndo : List Str} {ab_NothingToUndo : Bool} {col_NothingToUndo : Option Bool} {dd_NothingToUndo : Option Addr} {m0_NothingToUndo m1_NothingToUndo m2_NothingToUndo m3_NothingToUndo m5_NothingToUndo : Option Value}
    {C_NothingToRedo N_NothingToRedo : Addr} {nm_NothingToRedo q_NothingToRedo : Str} {bs_NothingToRedo sub_NothingToRedo : List Value} {sn_NothingToRedo : List Str} {ab_NothingToRedo : Bool} {col_NothingToRedo : Option Bool} {dd_NothingToRedo : Option Addr} {m0_NothingToRedo m1_NothingToRedo m2_NothingToRedo m3_NothingToRedo m5_NothingToRedo : Option Value}
    (a0 : PySem.W.nsIn K mainGlobals "is_integer" = some (some (.ref f0)))
    (l0 : K.lookup f0 = some ⟨oc0, od0, .func (PySem.W.fnOf "is_integer" "is_integer" (defArgs s_is_integer) (defBody s_is_integer) (defScope s_is_integer) .none kV0 dc0 pm0 an0 cd0 ct0), sl0⟩)
    (c0 : PySem.W.codeIn K cd0 "is_integer" = true)
    (k0 : PySem.W.keepIn K (.ref f0) = true)
    (a1 : PySem.W.nsIn K mainGlobals "pair" = some (some (.ref f1)))
    (l1 : K.lookup f1 = some ⟨oc1, od1, .func (PySem.W.fnOf "pair" "pair" (defArgs s_pair) (defBody s_pair) (defScope s_pair) .none kV1 dc1 pm1 an1 cd1 ct1), sl1⟩)
    (c1 : PySem.W.codeIn K cd1 "pair" = true)
    (k1 : PySem.W.keepIn K (.ref f1) = true)
    (a2 : PySem.W.nsIn K mainGlobals "in_lowest" = some (some (.ref f2)))
    (l2 : K.lookup f2 = some ⟨oc2, od2, .func (PySem.W.fnOf "in_lowest" "in_lowest" (defArgs s_in_lowest) (defBody s_in_lowest) (defScope s_in_lowest) .none kV2 dc2 pm2 an2 cd2 ct2), sl2⟩)
    (c2 : PySem.W.codeIn K cd2 "in_lowest" = true)
    (k2 : PySem.W.keepIn K (.ref f2) = true)
    (a3 : PySem.W.nsIn K mainGlobals "added" = some (some (.ref f3)))
    (l3 : K.lookup f3 = some ⟨oc3, od3, .func (PySem.W.fnOf "added" "added" (defArgs s_added) (defBody s_added) (defScope s_added) .none kV3 dc3 pm3 an3 cd3 ct3), sl3⟩)
    (c3 : PySem.W.codeIn K cd3 "added" = true)
    (k3 : PySem.W.keepIn K (.ref f3) = true)
    (a4 : PySem.W.nsIn K mainGlobals "opposite" = some (some (.ref f4)))
    (l4 : K.lookup f4 = some ⟨oc4, od4, .func (PySem.W.fnOf "opposite" "opposite" (defArgs s_opposite) (defBody s_opposite) (defScope s_opposite) .none kV4 dc4 pm4 an4 cd4 ct4), sl4⟩)
    (c4 : PySem.W.codeIn K cd4 "opposite" = true)
    (k4 : PySem.W.keepIn K (.ref f4) = true)
    (a5 : PySem.W.nsIn K mainGlobals "divided" = some (some (.ref f5)))
    (l5 : K.lookup f5 = some ⟨oc5, od5, .func (PySem.W.fnOf "divided" "divided" (defArgs s_divided) (defBody s_divided) (defScope s_divided) .none kV5 dc5 pm5 an5 cd5 ct5), sl5⟩)
    (c5 : PySem.W.codeIn K cd5 "divided" = true)
    (k5 : PySem.W.keepIn K (.ref f5) = true)
    (a6 : PySem.W.nsIn K mainGlobals "less_by" = some (some (.ref f6)))
    (l6 : K.lookup f6 = some ⟨oc6, od6, .func (PySem.W.fnOf "less_by" "less_by" (defArgs s_less_by) (defBody s_less_by) (defScope s_less_by) .none kV6 dc6 pm6 an6 cd6 ct6), sl6⟩)
    (c6 : PySem.W.codeIn K cd6 "less_by" = true)
    (k6 : PySem.W.keepIn K (.ref f6) = true)
    (a7 : PySem.W.nsIn K mainGlobals "sign_by" = some (some (.ref f7)))
    (l7 : K.lookup f7 = some ⟨oc7, od7, .func (PySem.W.fnOf "sign_by" "sign_by" (defArgs s_sign_by) (defBody s_sign_by) (defScope s_sign_by) .none kV7 dc7 pm7 an7 cd7 ct7), sl7⟩)
    (c7 : PySem.W.codeIn K cd7 "sign_by" = true)
    (k7 : PySem.W.keepIn K (.ref f7) = true)
    (a8 : PySem.W.nsIn K mainGlobals "primes_of" = some (some (.ref f8)))
    (l8 : K.lookup f8 = some ⟨oc8, od8, .func (PySem.W.fnOf "primes_of" "primes_of" (defArgs s_primes_of) (defBody s_primes_of) (defScope s_primes_of) .none kV8 dc8 pm8 an8 cd8 ct8), sl8⟩)
    (c8 : PySem.W.codeIn K cd8 "primes_of" = true)
    (k8 : PySem.W.keepIn K (.ref f8) = true)
    (a9 : PySem.W.nsIn K mainGlobals "free_of_squares" = some (some (.ref f9)))
    (l9 : K.lookup f9 = some ⟨oc9, od9, .func (PySem.W.fnOf "free_of_squares" "free_of_squares" (defArgs s_free_of_squares) (defBody s_free_of_squares) (defScope s_free_of_squares) .none kV9 dc9 pm9 an9 cd9 ct9), sl9⟩)
    (c9 : PySem.W.codeIn K cd9 "free_of_squares" = true)
    (k9 : PySem.W.keepIn K (.ref f9) = true)
    (a10 : PySem.W.nsIn K mainGlobals "fundamental_by" = some (some (.ref f10)))
    (l10 : K.lookup f10 = some ⟨oc10, od10, .func (PySem.W.fnOf "fundamental_by" "fundamental_by" (defArgs s_fundamental_by) (defBody s_fundamental_by) (defScope s_fundamental_by) .none kV10 dc10 pm10 an10 cd10 ct10), sl10⟩)
    (c10 : PySem.W.codeIn K cd10 "fundamental_by" = true)
    (k10 : PySem.W.keepIn K (.ref f10) = true)
    (a11 : PySem.W.nsIn K mainGlobals "fundamental_of" = some (some (.ref f11)))
    (l11 : K.lookup f11 = some ⟨oc11, od11, .func (PySem.W.fnOf "fundamental_of" "fundamental_of" (defArgs s_fundamental_of) (defBody s_fundamental_of) (defScope s_fundamental_of) .none kV11 dc11 pm11 an11 cd11 ct11), sl11⟩)
    (c11 : PySem.W.codeIn K cd11 "fundamental_of" = true)
    (k11 : PySem.W.keepIn K (.ref f11) = true)
    (a12 : PySem.W.nsIn K mainGlobals "need_mark" = some (some (.ref f12)))
    (l12 : K.lookup f12 = some ⟨oc12, od12, .func (PySem.W.fnOf "need_mark" "need_mark" (defArgs s_need_mark) (defBody s_need_mark) (defScope s_need_mark) .none kV12 dc12 pm12 an12 cd12 ct12), sl12⟩)
    (c12 : PySem.W.codeIn K cd12 "need_mark" = true)
    (k12 : PySem.W.keepIn K (.ref f12) = true)
    (a13 : PySem.W.nsIn K mainGlobals "prime_mark" = some (some (.ref f13)))
    (l13 : K.lookup f13 = some ⟨oc13, od13, .func (PySem.W.fnOf "prime_mark" "prime_mark" (defArgs s_prime_mark) (defBody s_prime_mark) (defScope s_prime_mark) .none kV13 dc13 pm13 an13 cd13 ct13), sl13⟩)
    (c13 : PySem.W.codeIn K cd13 "prime_mark" = true)
    (k13 : PySem.W.keepIn K (.ref f13) = true)
    (a14 : PySem.W.nsIn K mainGlobals "mark_by" = some (some (.ref f14)))
    (l14 : K.lookup f14 = some ⟨oc14, od14, .func (PySem.W.fnOf "mark_by" "mark_by" (defArgs s_mark_by) (defBody s_mark_by) (defScope s_mark_by) .none kV14 dc14 pm14 an14 cd14 ct14), sl14⟩)
    (c14 : PySem.W.codeIn K cd14 "mark_by" = true)
    (k14 : PySem.W.keepIn K (.ref f14) = true)
    (a15 : PySem.W.nsIn K mainGlobals "mark_of" = some (some (.ref f15)))
    (l15 : K.lookup f15 = some ⟨oc15, od15, .func (PySem.W.fnOf "mark_of" "mark_of" (defArgs s_mark_of) (defBody s_mark_of) (defScope s_mark_of) .none kV15 dc15 pm15 an15 cd15 ct15), sl15⟩)
    (c15 : PySem.W.codeIn K cd15 "mark_of" = true)
    (k15 : PySem.W.keepIn K (.ref f15) = true)
    (a16 : PySem.W.nsIn K mainGlobals "marks_to" = some (some (.ref f16)))
    (l16 : K.lookup f16 = some ⟨oc16, od16, .func (PySem.W.fnOf "marks_to" "marks_to" (defArgs s_marks_to) (defBody s_marks_to) (defScope s_marks_to) .none kV16 dc16 pm16 an16 cd16 ct16), sl16⟩)
    (c16 : PySem.W.codeIn K cd16 "marks_to" = true)
    (k16 : PySem.W.keepIn K (.ref f16) = true)
    (a17 : PySem.W.nsIn K mainGlobals "bernoulli_by" = some (some (.ref f17)))
    (l17 : K.lookup f17 = some ⟨oc17, od17, .func (PySem.W.fnOf "bernoulli_by" "bernoulli_by" (defArgs s_bernoulli_by) (defBody s_bernoulli_by) (defScope s_bernoulli_by) .none kV17 dc17 pm17 an17 cd17 ct17), sl17⟩)
    (c17 : PySem.W.codeIn K cd17 "bernoulli_by" = true)
    (k17 : PySem.W.keepIn K (.ref f17) = true)
    (a18 : PySem.W.nsIn K mainGlobals "bernoulli_of" = some (some (.ref f18)))
    (l18 : K.lookup f18 = some ⟨oc18, od18, .func (PySem.W.fnOf "bernoulli_of" "bernoulli_of" (defArgs s_bernoulli_of) (defBody s_bernoulli_of) (defScope s_bernoulli_of) .none kV18 dc18 pm18 an18 cd18 ct18), sl18⟩)
    (c18 : PySem.W.codeIn K cd18 "bernoulli_of" = true)
    (k18 : PySem.W.keepIn K (.ref f18) = true)
    (a19 : PySem.W.nsIn K mainGlobals "_law_pen" = some (some (.ref f19)))
    (l19 : K.lookup f19 = some ⟨oc19, od19, .func (PySem.W.fnOf "_law_pen" "_law_pen" (defArgs s__law_pen) (defBody s__law_pen) (defScope s__law_pen) .none kV19 dc19 pm19 an19 cd19 ct19), sl19⟩)
    (c19 : PySem.W.codeIn K cd19 "_law_pen" = true)
    (k19 : PySem.W.keepIn K (.ref f19) = true)
    (a20 : PySem.W.nsIn K mainGlobals "_law_draw" = some (some (.ref f20)))
    (l20 : K.lookup f20 = some ⟨oc20, od20, .func (PySem.W.fnOf "_law_draw" "_law_draw" (defArgs s__law_draw) (defBody s__law_draw) (defScope s__law_draw) .none kV20 dc20 pm20 an20 cd20 ct20), sl20⟩)
    (c20 : PySem.W.codeIn K cd20 "_law_draw" = true)
    (k20 : PySem.W.keepIn K (.ref f20) = true)
    (a21 : PySem.W.nsIn K mainGlobals "_law_pick" = some (some (.ref f21)))
    (l21 : K.lookup f21 = some ⟨oc21, od21, .func (PySem.W.fnOf "_law_pick" "_law_pick" (defArgs s__law_pick) (defBody s__law_pick) (defScope s__law_pick) .none kV21 dc21 pm21 an21 cd21 ct21), sl21⟩)
    (c21 : PySem.W.codeIn K cd21 "_law_pick" = true)
    (k21 : PySem.W.keepIn K (.ref f21) = true)
    (a22 : PySem.W.nsIn K mainGlobals "_law_is" = some (some (.ref f22)))
    (l22 : K.lookup f22 = some ⟨oc22, od22, .func (PySem.W.fnOf "_law_is" "_law_is" (defArgs s__law_is) (defBody s__law_is) (defScope s__law_is) .none kV22 dc22 pm22 an22 cd22 ct22), sl22⟩)
    (c22 : PySem.W.codeIn K cd22 "_law_is" = true)
    (k22 : PySem.W.keepIn K (.ref f22) = true)
    (a23 : PySem.W.nsIn K mainGlobals "_law_divisor" = some (some (.ref f23)))
    (l23 : K.lookup f23 = some ⟨oc23, od23, .func (PySem.W.fnOf "_law_divisor" "_law_divisor" (defArgs s__law_divisor) (defBody s__law_divisor) (defScope s__law_divisor) .none kV23 dc23 pm23 an23 cd23 ct23), sl23⟩)
    (c23 : PySem.W.codeIn K cd23 "_law_divisor" = true)
    (k23 : PySem.W.keepIn K (.ref f23) = true)
    (a24 : PySem.W.nsIn K mainGlobals "_law_low" = some (some (.ref f24)))
    (l24 : K.lookup f24 = some ⟨oc24, od24, .func (PySem.W.fnOf "_law_low" "_law_low" (defArgs s__law_low) (defBody s__law_low) (defScope s__law_low) .none kV24 dc24 pm24 an24 cd24 ct24), sl24⟩)
    (c24 : PySem.W.codeIn K cd24 "_law_low" = true)
    (k24 : PySem.W.keepIn K (.ref f24) = true)
    (a25 : PySem.W.nsIn K mainGlobals "_law_pair" = some (some (.ref f25)))
    (l25 : K.lookup f25 = some ⟨oc25, od25, .func (PySem.W.fnOf "_law_pair" "_law_pair" (defArgs s__law_pair) (defBody s__law_pair) (defScope s__law_pair) .none kV25 dc25 pm25 an25 cd25 ct25), sl25⟩)
    (c25 : PySem.W.codeIn K cd25 "_law_pair" = true)
    (k25 : PySem.W.keepIn K (.ref f25) = true)
    (a26 : PySem.W.nsIn K mainGlobals "_law_plus" = some (some (.ref f26)))
    (l26 : K.lookup f26 = some ⟨oc26, od26, .func (PySem.W.fnOf "_law_plus" "_law_plus" (defArgs s__law_plus) (defBody s__law_plus) (defScope s__law_plus) .none kV26 dc26 pm26 an26 cd26 ct26), sl26⟩)
    (c26 : PySem.W.codeIn K cd26 "_law_plus" = true)
    (k26 : PySem.W.keepIn K (.ref f26) = true)
    (a27 : PySem.W.nsIn K mainGlobals "_law_opposite" = some (some (.ref f27)))
    (l27 : K.lookup f27 = some ⟨oc27, od27, .func (PySem.W.fnOf "_law_opposite" "_law_opposite" (defArgs s__law_opposite) (defBody s__law_opposite) (defScope s__law_opposite) .none kV27 dc27 pm27 an27 cd27 ct27), sl27⟩)
    (c27 : PySem.W.codeIn K cd27 "_law_opposite" = true)
    (k27 : PySem.W.keepIn K (.ref f27) = true)
    (a28 : PySem.W.nsIn K mainGlobals "_law_minus" = some (some (.ref f28)))
    (l28 : K.lookup f28 = some ⟨oc28, od28, .func (PySem.W.fnOf "_law_minus" "_law_minus" (defArgs s__law_minus) (defBody s__law_minus) (defScope s__law_minus) .none kV28 dc28 pm28 an28 cd28 ct28), sl28⟩)
    (c28 : PySem.W.codeIn K cd28 "_law_minus" = true)
    (k28 : PySem.W.keepIn K (.ref f28) = true)
    (a29 : PySem.W.nsIn K mainGlobals "_law_fault" = some (some (.ref f29)))
    (l29 : K.lookup f29 = some ⟨oc29, od29, .func (PySem.W.fnOf "_law_fault" "_law_fault" (defArgs s__law_fault) (defBody s__law_fault) (defScope s__law_fault) .none kV29 dc29 pm29 an29 cd29 ct29), sl29⟩)
    (c29 : PySem.W.codeIn K cd29 "_law_fault" = true)
    (k29 : PySem.W.keepIn K (.ref f29) = true)
    (a30 : PySem.W.nsIn K mainGlobals "_law_kinds" = some (some (.ref f30)))
    (l30 : K.lookup f30 = some ⟨oc30, od30, .func (PySem.W.fnOf "_law_kinds" "_law_kinds" (defArgs s__law_kinds) (defBody s__law_kinds) (defScope s__law_kinds) .none kV30 dc30 pm30 an30 cd30 ct30), sl30⟩)
    (c30 : PySem.W.codeIn K cd30 "_law_kinds" = true)
    (k30 : PySem.W.keepIn K (.ref f30) = true)
    (a31 : PySem.W.nsIn K mainGlobals "_law_more_kinds" = some (some (.ref f31)))
    (l31 : K.lookup f31 = some ⟨oc31, od31, .func (PySem.W.fnOf "_law_more_kinds" "_law_more_kinds" (defArgs s__law_more_kinds) (defBody s__law_more_kinds) (defScope s__law_more_kinds) .none kV31 dc31 pm31 an31 cd31 ct31), sl31⟩)
    (c31 : PySem.W.codeIn K cd31 "_law_more_kinds" = true)
    (k31 : PySem.W.keepIn K (.ref f31) = true)
    (a32 : PySem.W.nsIn K mainGlobals "_law_times_in" = some (some (.ref f32)))
    (l32 : K.lookup f32 = some ⟨oc32, od32, .func (PySem.W.fnOf "_law_times_in" "_law_times_in" (defArgs s__law_times_in) (defBody s__law_times_in) (defScope s__law_times_in) .none kV32 dc32 pm32 an32 cd32 ct32), sl32⟩)
    (c32 : PySem.W.codeIn K cd32 "_law_times_in" = true)
    (k32 : PySem.W.keepIn K (.ref f32) = true)
    (a33 : PySem.W.nsIn K mainGlobals "_law_primes_in" = some (some (.ref f33)))
    (l33 : K.lookup f33 = some ⟨oc33, od33, .func (PySem.W.fnOf "_law_primes_in" "_law_primes_in" (defArgs s__law_primes_in) (defBody s__law_primes_in) (defScope s__law_primes_in) .none kV33 dc33 pm33 an33 cd33 ct33), sl33⟩)
    (c33 : PySem.W.codeIn K cd33 "_law_primes_in" = true)
    (k33 : PySem.W.keepIn K (.ref f33) = true)
    (a34 : PySem.W.nsIn K mainGlobals "_law_square_sign" = some (some (.ref f34)))
    (l34 : K.lookup f34 = some ⟨oc34, od34, .func (PySem.W.fnOf "_law_square_sign" "_law_square_sign" (defArgs s__law_square_sign) (defBody s__law_square_sign) (defScope s__law_square_sign) .none kV34 dc34 pm34 an34 cd34 ct34), sl34⟩)
    (c34 : PySem.W.codeIn K cd34 "_law_square_sign" = true)
    (k34 : PySem.W.keepIn K (.ref f34) = true)
    (a35 : PySem.W.nsIn K mainGlobals "_law_fundamental" = some (some (.ref f35)))
    (l35 : K.lookup f35 = some ⟨oc35, od35, .func (PySem.W.fnOf "_law_fundamental" "_law_fundamental" (defArgs s__law_fundamental) (defBody s__law_fundamental) (defScope s__law_fundamental) .none kV35 dc35 pm35 an35 cd35 ct35), sl35⟩)
    (c35 : PySem.W.codeIn K cd35 "_law_fundamental" = true)
    (k35 : PySem.W.keepIn K (.ref f35) = true)
    (a36 : PySem.W.nsIn K mainGlobals "_law_mark" = some (some (.ref f36)))
    (l36 : K.lookup f36 = some ⟨oc36, od36, .func (PySem.W.fnOf "_law_mark" "_law_mark" (defArgs s__law_mark) (defBody s__law_mark) (defScope s__law_mark) .none kV36 dc36 pm36 an36 cd36 ct36), sl36⟩)
    (c36 : PySem.W.codeIn K cd36 "_law_mark" = true)
    (k36 : PySem.W.keepIn K (.ref f36) = true)
    (a37 : PySem.W.nsIn K mainGlobals "_law_drawn_base" = some (some (.ref f37)))
    (l37 : K.lookup f37 = some ⟨oc37, od37, .func (PySem.W.fnOf "_law_drawn_base" "_law_drawn_base" (defArgs s__law_drawn_base) (defBody s__law_drawn_base) (defScope s__law_drawn_base) .none kV37 dc37 pm37 an37 cd37 ct37), sl37⟩)
    (c37 : PySem.W.codeIn K cd37 "_law_drawn_base" = true)
    (k37 : PySem.W.keepIn K (.ref f37) = true)
    (a38 : PySem.W.nsIn K mainGlobals "_law_sum" = some (some (.ref f38)))
    (l38 : K.lookup f38 = some ⟨oc38, od38, .func (PySem.W.fnOf "_law_sum" "_law_sum" (defArgs s__law_sum) (defBody s__law_sum) (defScope s__law_sum) .none kV38 dc38 pm38 an38 cd38 ct38), sl38⟩)
    (c38 : PySem.W.codeIn K cd38 "_law_sum" = true)
    (k38 : PySem.W.keepIn K (.ref f38) = true)
    (a39 : PySem.W.nsIn K mainGlobals "_law_classes" = some (some (.ref f39)))
    (l39 : K.lookup f39 = some ⟨oc39, od39, .func (PySem.W.fnOf "_law_classes" "_law_classes" (defArgs s__law_classes) (defBody s__law_classes) (defScope s__law_classes) .none kV39 dc39 pm39 an39 cd39 ct39), sl39⟩)
    (c39 : PySem.W.codeIn K cd39 "_law_classes" = true)
    (k39 : PySem.W.keepIn K (.ref f39) = true)
    (a40 : PySem.W.nsIn K mainGlobals "_law_refused" = some (some (.ref f40)))
    (l40 : K.lookup f40 = some ⟨oc40, od40, .func (PySem.W.fnOf "_law_refused" "_law_refused" (defArgs s__law_refused) (defBody s__law_refused) (defScope s__law_refused) .none kV40 dc40 pm40 an40 (.ref cc40) ct40), sl40⟩)
    (c40 : PySem.W.codeIn K (.ref cc40) "_law_refused" = true)
    (lc40 : K.lookup cc40 = some ⟨ec40, ed40, .fields ev40, es40⟩)
    (lt40 : (ev40[11]? : Option Value) = some (.ref tb40))
    (nt40 : K.lookup tb40 = none)
    (k40 : PySem.W.keepIn K (.ref f40) = true)
    (a41 : PySem.W.nsIn K mainGlobals "law" = some (some (.ref f41)))
    (l41 : K.lookup f41 = some ⟨oc41, od41, .func (PySem.W.fnOf "law" "law" (defArgs s_law) (defBody s_law) (defScope s_law) .none kV41 dc41 pm41 an41 cd41 ct41), sl41⟩)
    (c41 : PySem.W.codeIn K cd41 "law" = true)
    (k41 : PySem.W.keepIn K (.ref f41) = true)
    (tnd : [tb40].Nodup)
    (z_ValueError : PySem.W.nsIn K mainGlobals "ValueError" = some none)
    (z_abs : PySem.W.nsIn K mainGlobals "abs" = some none)
    (z_bool : PySem.W.nsIn K mainGlobals "bool" = some none)
    (z_int : PySem.W.nsIn K mainGlobals "int" = some none)
    (z_isinstance : PySem.W.nsIn K mainGlobals "isinstance" = some none)
    (z_len : PySem.W.nsIn K mainGlobals "len" = some none)
    (z_list : PySem.W.nsIn K mainGlobals "list" = some none)
    (z_max : PySem.W.nsIn K mainGlobals "max" = some none)
    (z_range : PySem.W.nsIn K mainGlobals "range" = some none)
    (z_repr : PySem.W.nsIn K mainGlobals "repr" = some none)
    (z_str : PySem.W.nsIn K mainGlobals "str" = some none)
    (z_sum : PySem.W.nsIn K mainGlobals "sum" = some none)
    (z_tuple : PySem.W.nsIn K mainGlobals "tuple" = some none)
    (zm_gcd : PySem.W.nsIn K mainGlobals "gcd" = some (some (.builtin "math.gcd")))
    (zk_MOST_NUMBER : PySem.W.nsIn K mainGlobals "MOST_NUMBER" = some (some (.int 1000000000 kt_MOST_NUMBER)))
    (zk_MOST_MARK : PySem.W.nsIn K mainGlobals "MOST_MARK" = some (some (.int 50000 kt_MOST_MARK)))
    (ekn : PySem.W.specialIn K (.builtin "object.__class__") "__get__" = some (some (.builtin "getset_descriptor.__get__")))
    (ekt : PySem.W.takesIn K (.builtin "object.__class__") = some true)
    (ca_GenusError : PySem.W.nsIn K mainGlobals "GenusError" = some (some (.ref C_GenusError)))
    (cl_GenusError : K.lookup C_GenusError = some (excClassObj nm_GenusError q_GenusError C_GenusError N_GenusError bs_GenusError [.type "ValueError", .type "Exception", .type "BaseException", .type "object"] true sn_GenusError sub_GenusError ab_GenusError col_GenusError dd_GenusError m0_GenusError m1_GenusError m2_GenusError m3_GenusError m5_GenusError "ValueError.__new__"))
    (cs_GenusError : PySem.W.findIn K (.ref C_GenusError) "__setattr__" = some (some (.builtin "object.__setattr__")))
    (cg_GenusError : PySem.W.findIn K (.ref C_GenusError) "__getattribute__" = some (some (.builtin "BaseException.__getattribute__")))
    (ch_GenusError : PySem.W.findIn K (.ref C_GenusError) "__getattr__" = some none)
    (cc_GenusError : PySem.W.findIn K (.ref C_GenusError) "__class__" = some (some (.builtin "object.__class__")))
    (ck_GenusError : PySem.W.keepIn K (.ref C_GenusError) = true)
    (ca_BadNumber : PySem.W.nsIn K mainGlobals "BadNumber" = some (some (.ref C_BadNumber)))
    (cl_BadNumber : K.lookup C_BadNumber = some (excClassObj nm_BadNumber q_BadNumber C_BadNumber N_BadNumber bs_BadNumber (.ref C_GenusError :: [.type "ValueError", .type "Exception", .type "BaseException", .type "object"]) true sn_BadNumber sub_BadNumber ab_BadNumber col_BadNumber dd_BadNumber m0_BadNumber m1_BadNumber m2_BadNumber m3_BadNumber m5_BadNumber "ValueError.__new__"))
    (cs_BadNumber : PySem.W.findIn K (.ref C_BadNumber) "__setattr__" = some (some (.builtin "object.__setattr__")))
    (cg_BadNumber : PySem.W.findIn K (.ref C_BadNumber) "__getattribute__" = some (some (.builtin "BaseException.__getattribute__")))
    (ch_BadNumber : PySem.W.findIn K (.ref C_BadNumber) "__getattr__" = some none)
    (cc_BadNumber : PySem.W.findIn K (.ref C_BadNumber) "__class__" = some (some (.builtin "object.__class__")))
    (ck_BadNumber : PySem.W.keepIn K (.ref C_BadNumber) = true)
    (ia_BadNumber : PySem.W.findIn K (.ref C_BadNumber) "__init__" = some (some (.ref I_BadNumber)))
    (it_BadNumber : PySem.W.typeIn K (.ref I_BadNumber) = some (.type "function"))
    (il_BadNumber : K.lookup I_BadNumber = some ⟨ioc_BadNumber, iod_BadNumber, .func (PySem.W.fnOf "__init__" "BadNumber.__init__" (defArgs s_BadNumber_init) (defBody s_BadNumber_init) (defScope s_BadNumber_init) .none ikV_BadNumber idc_BadNumber ipm_BadNumber ian_BadNumber icd_BadNumber ict_BadNumber), isl_BadNumber⟩)
    (ic_BadNumber : PySem.W.codeIn K icd_BadNumber "BadNumber.__init__" = true)
    (ik_BadNumber : PySem.W.keepIn K (.ref I_BadNumber) = true)
    (in_BadNumber_what : PySem.W.findIn K (.ref C_BadNumber) "what" = some none)
    (in_BadNumber_number : PySem.W.findIn K (.ref C_BadNumber) "number" = some none)
    (ca_BadRow : PySem.W.nsIn K mainGlobals "BadRow" = some (some (.ref C_BadRow)))
    (cl_BadRow : K.lookup C_BadRow = some (excClassObj nm_BadRow q_BadRow C_BadRow N_BadRow bs_BadRow (.ref C_GenusError :: [.type "ValueError", .type "Exception", .type "BaseException", .type "object"]) true sn_BadRow sub_BadRow ab_BadRow col_BadRow dd_BadRow m0_BadRow m1_BadRow m2_BadRow m3_BadRow m5_BadRow "ValueError.__new__"))
    (cs_BadRow : PySem.W.findIn K (.ref C_BadRow) "__setattr__" = some (some (.builtin "object.__setattr__")))
    (cg_BadRow : PySem.W.findIn K (.ref C_BadRow) "__getattribute__" = some (some (.builtin "BaseException.__getattribute__")))
    (ch_BadRow : PySem.W.findIn K (.ref C_BadRow) "__getattr__" = some none)
    (cc_BadRow : PySem.W.findIn K (.ref C_BadRow) "__class__" = some (some (.builtin "object.__class__")))
    (ck_BadRow : PySem.W.keepIn K (.ref C_BadRow) = true)
    (ia_BadRow : PySem.W.findIn K (.ref C_BadRow) "__init__" = some (some (.ref I_BadRow)))
    (it_BadRow : PySem.W.typeIn K (.ref I_BadRow) = some (.type "function"))
    (il_BadRow : K.lookup I_BadRow = some ⟨ioc_BadRow, iod_BadRow, .func (PySem.W.fnOf "__init__" "BadRow.__init__" (defArgs s_BadRow_init) (defBody s_BadRow_init) (defScope s_BadRow_init) .none ikV_BadRow idc_BadRow ipm_BadRow ian_BadRow icd_BadRow ict_BadRow), isl_BadRow⟩)
    (ic_BadRow : PySem.W.codeIn K icd_BadRow "BadRow.__init__" = true)
    (ik_BadRow : PySem.W.keepIn K (.ref I_BadRow) = true)
    (in_BadRow_what : PySem.W.findIn K (.ref C_BadRow) "what" = some none)
    (in_BadRow_row : PySem.W.findIn K (.ref C_BadRow) "row" = some none)
    (ca_BadTable : PySem.W.nsIn K mainGlobals "BadTable" = some (some (.ref C_BadTable)))
    (cl_BadTable : K.lookup C_BadTable = some (excClassObj nm_BadTable q_BadTable C_BadTable N_BadTable bs_BadTable (.ref C_GenusError :: [.type "ValueError", .type "Exception", .type "BaseException", .type "object"]) true sn_BadTable sub_BadTable ab_BadTable col_BadTable dd_BadTable m0_BadTable m1_BadTable m2_BadTable m3_BadTable m5_BadTable "ValueError.__new__"))
    (cs_BadTable : PySem.W.findIn K (.ref C_BadTable) "__setattr__" = some (some (.builtin "object.__setattr__")))
    (cg_BadTable : PySem.W.findIn K (.ref C_BadTable) "__getattribute__" = some (some (.builtin "BaseException.__getattribute__")))
    (ch_BadTable : PySem.W.findIn K (.ref C_BadTable) "__getattr__" = some none)
    (cc_BadTable : PySem.W.findIn K (.ref C_BadTable) "__class__" = some (some (.builtin "object.__class__")))
    (ck_BadTable : PySem.W.keepIn K (.ref C_BadTable) = true)
    (ia_BadTable : PySem.W.findIn K (.ref C_BadTable) "__init__" = some (some (.ref I_BadTable)))
    (it_BadTable : PySem.W.typeIn K (.ref I_BadTable) = some (.type "function"))
    (il_BadTable : K.lookup I_BadTable = some ⟨ioc_BadTable, iod_BadTable, .func (PySem.W.fnOf "__init__" "BadTable.__init__" (defArgs s_BadTable_init) (defBody s_BadTable_init) (defScope s_BadTable_init) .none ikV_BadTable idc_BadTable ipm_BadTable ian_BadTable icd_BadTable ict_BadTable), isl_BadTable⟩)
    (ic_BadTable : PySem.W.codeIn K icd_BadTable "BadTable.__init__" = true)
    (ik_BadTable : PySem.W.keepIn K (.ref I_BadTable) = true)
    (in_BadTable_what : PySem.W.findIn K (.ref C_BadTable) "what" = some none)
    (ca_BadForm : PySem.W.nsIn K mainGlobals "BadForm" = some (some (.ref C_BadForm)))
    (cl_BadForm : K.lookup C_BadForm = some (excClassObj nm_BadForm q_BadForm C_BadForm N_BadForm bs_BadForm (.ref C_GenusError :: [.type "ValueError", .type "Exception", .type "BaseException", .type "object"]) true sn_BadForm sub_BadForm ab_BadForm col_BadForm dd_BadForm m0_BadForm m1_BadForm m2_BadForm m3_BadForm m5_BadForm "ValueError.__new__"))
    (cs_BadForm : PySem.W.findIn K (.ref C_BadForm) "__setattr__" = some (some (.builtin "object.__setattr__")))
    (cg_BadForm : PySem.W.findIn K (.ref C_BadForm) "__getattribute__" = some (some (.builtin "BaseException.__getattribute__")))
    (ch_BadForm : PySem.W.findIn K (.ref C_BadForm) "__getattr__" = some none)
    (cc_BadForm : PySem.W.findIn K (.ref C_BadForm) "__class__" = some (some (.builtin "object.__class__")))
    (ck_BadForm : PySem.W.keepIn K (.ref C_BadForm) = true)
    (ia_BadForm : PySem.W.findIn K (.ref C_BadForm) "__init__" = some (some (.ref I_BadForm)))
    (it_BadForm : PySem.W.typeIn K (.ref I_BadForm) = some (.type "function"))
    (il_BadForm : K.lookup I_BadForm = some ⟨ioc_BadForm, iod_BadForm, .func (PySem.W.fnOf "__init__" "BadForm.__init__" (defArgs s_BadForm_init) (defBody s_BadForm_init) (defScope s_BadForm_init) .none ikV_BadForm idc_BadForm ipm_BadForm ian_BadForm icd_BadForm ict_BadForm), isl_BadForm⟩)
    (ic_BadForm : PySem.W.codeIn K icd_BadForm "BadForm.__init__" = true)
    (ik_BadForm : PySem.W.keepIn K (.ref I_BadForm) = true)
    (in_BadForm_what : PySem.W.findIn K (.ref C_BadForm) "what" = some none)
    (ca_BadBook : PySem.W.nsIn K mainGlobals "BadBook" = some (some (.ref C_BadBook)))
    (cl_BadBook : K.lookup C_BadBook = some (excClassObj nm_BadBook q_BadBook C_BadBook N_BadBook bs_BadBook (.ref C_GenusError :: [.type "ValueError", .type "Exception", .type "BaseException", .type "object"]) true sn_BadBook sub_BadBook ab_BadBook col_BadBook dd_BadBook m0_BadBook m1_BadBook m2_BadBook m3_BadBook m5_BadBook "ValueError.__new__"))
    (cs_BadBook : PySem.W.findIn K (.ref C_BadBook) "__setattr__" = some (some (.builtin "object.__setattr__")))
    (cg_BadBook : PySem.W.findIn K (.ref C_BadBook) "__getattribute__" = some (some (.builtin "BaseException.__getattribute__")))
    (ch_BadBook : PySem.W.findIn K (.ref C_BadBook) "__getattr__" = some none)
    (cc_BadBook : PySem.W.findIn K (.ref C_BadBook) "__class__" = some (some (.builtin "object.__class__")))
    (ck_BadBook : PySem.W.keepIn K (.ref C_BadBook) = true)
    (ia_BadBook : PySem.W.findIn K (.ref C_BadBook) "__init__" = some (some (.ref I_BadBook)))
    (it_BadBook : PySem.W.typeIn K (.ref I_BadBook) = some (.type "function"))
    (il_BadBook : K.lookup I_BadBook = some ⟨ioc_BadBook, iod_BadBook, .func (PySem.W.fnOf "__init__" "BadBook.__init__" (defArgs s_BadBook_init) (defBody s_BadBook_init) (defScope s_BadBook_init) .none ikV_BadBook idc_BadBook ipm_BadBook ian_BadBook icd_BadBook ict_BadBook), isl_BadBook⟩)
    (ic_BadBook : PySem.W.codeIn K icd_BadBook "BadBook.__init__" = true)
    (ik_BadBook : PySem.W.keepIn K (.ref I_BadBook) = true)
    (in_BadBook_what : PySem.W.findIn K (.ref C_BadBook) "what" = some none)
    (ca_BadName : PySem.W.nsIn K mainGlobals "BadName" = some (some (.ref C_BadName)))
    (cl_BadName : K.lookup C_BadName = some (excClassObj nm_BadName q_BadName C_BadName N_BadName bs_BadName (.ref C_GenusError :: [.type "ValueError", .type "Exception", .type "BaseException", .type "object"]) true sn_BadName sub_BadName ab_BadName col_BadName dd_BadName m0_BadName m1_BadName m2_BadName m3_BadName m5_BadName "ValueError.__new__"))
    (cs_BadName : PySem.W.findIn K (.ref C_BadName) "__setattr__" = some (some (.builtin "object.__setattr__")))
    (cg_BadName : PySem.W.findIn K (.ref C_BadName) "__getattribute__" = some (some (.builtin "BaseException.__getattribute__")))
    (ch_BadName : PySem.W.findIn K (.ref C_BadName) "__getattr__" = some none)
    (cc_BadName : PySem.W.findIn K (.ref C_BadName) "__class__" = some (some (.builtin "object.__class__")))
    (ck_BadName : PySem.W.keepIn K (.ref C_BadName) = true)
    (ia_BadName : PySem.W.findIn K (.ref C_BadName) "__init__" = some (some (.ref I_BadName)))
    (it_BadName : PySem.W.typeIn K (.ref I_BadName) = some (.type "function"))
    (il_BadName : K.lookup I_BadName = some ⟨ioc_BadName, iod_BadName, .func (PySem.W.fnOf "__init__" "BadName.__init__" (defArgs s_BadName_init) (defBody s_BadName_init) (defScope s_BadName_init) .none ikV_BadName idc_BadName ipm_BadName ian_BadName icd_BadName ict_BadName), isl_BadName⟩)
    (ic_BadName : PySem.W.codeIn K icd_BadName "BadName.__init__" = true)
    (ik_BadName : PySem.W.keepIn K (.ref I_BadName) = true)
    (in_BadName_name : PySem.W.findIn K (.ref C_BadName) "name" = some none)
    (ca_BadText : PySem.W.nsIn K mainGlobals "BadText" = some (some (.ref C_BadText)))
    (cl_BadText : K.lookup C_BadText = some (excClassObj nm_BadText q_BadText C_BadText N_BadText bs_BadText (.ref C_GenusError :: [.type "ValueError", .type "Exception", .type "BaseException", .type "object"]) true sn_BadText sub_BadText ab_BadText col_BadText dd_BadText m0_BadText m1_BadText m2_BadText m3_BadText m5_BadText "ValueError.__new__"))
    (cs_BadText : PySem.W.findIn K (.ref C_BadText) "__setattr__" = some (some (.builtin "object.__setattr__")))
    (cg_BadText : PySem.W.findIn K (.ref C_BadText) "__getattribute__" = some (some (.builtin "BaseException.__getattribute__")))
    (ch_BadText : PySem.W.findIn K (.ref C_BadText) "__getattr__" = some none)
    (cc_BadText : PySem.W.findIn K (.ref C_BadText) "__class__" = some (some (.builtin "object.__class__")))
    (ck_BadText : PySem.W.keepIn K (.ref C_BadText) = true)
    (ia_BadText : PySem.W.findIn K (.ref C_BadText) "__init__" = some (some (.ref I_BadText)))
    (it_BadText : PySem.W.typeIn K (.ref I_BadText) = some (.type "function"))
    (il_BadText : K.lookup I_BadText = some ⟨ioc_BadText, iod_BadText, .func (PySem.W.fnOf "__init__" "BadText.__init__" (defArgs s_BadText_init) (defBody s_BadText_init) (defScope s_BadText_init) .none ikV_BadText idc_BadText ipm_BadText ian_BadText icd_BadText ict_BadText), isl_BadText⟩)
    (ic_BadText : PySem.W.codeIn K icd_BadText "BadText.__init__" = true)
    (ik_BadText : PySem.W.keepIn K (.ref I_BadText) = true)
    (in_BadText_line : PySem.W.findIn K (.ref C_BadText) "line" = some none)
    (in_BadText_word : PySem.W.findIn K (.ref C_BadText) "word" = some none)
    (ca_NoPlace : PySem.W.nsIn K mainGlobals "NoPlace" = some (some (.ref C_NoPlace)))
    (cl_NoPlace : K.lookup C_NoPlace = some (excClassObj nm_NoPlace q_NoPlace C_NoPlace N_NoPlace bs_NoPlace (.ref C_GenusError :: [.type "ValueError", .type "Exception", .type "BaseException", .type "object"]) true sn_NoPlace sub_NoPlace ab_NoPlace col_NoPlace dd_NoPlace m0_NoPlace m1_NoPlace m2_NoPlace m3_NoPlace m5_NoPlace "ValueError.__new__"))
    (cs_NoPlace : PySem.W.findIn K (.ref C_NoPlace) "__setattr__" = some (some (.builtin "object.__setattr__")))
    (cg_NoPlace : PySem.W.findIn K (.ref C_NoPlace) "__getattribute__" = some (some (.builtin "BaseException.__getattribute__")))
    (ch_NoPlace : PySem.W.findIn K (.ref C_NoPlace) "__getattr__" = some none)
    (cc_NoPlace : PySem.W.findIn K (.ref C_NoPlace) "__class__" = some (some (.builtin "object.__class__")))
    (ck_NoPlace : PySem.W.keepIn K (.ref C_NoPlace) = true)
    (ia_NoPlace : PySem.W.findIn K (.ref C_NoPlace) "__init__" = some (some (.ref I_NoPlace)))
    (it_NoPlace : PySem.W.typeIn K (.ref I_NoPlace) = some (.type "function"))
    (il_NoPlace : K.lookup I_NoPlace = some ⟨ioc_NoPlace, iod_NoPlace, .func (PySem.W.fnOf "__init__" "NoPlace.__init__" (defArgs s_NoPlace_init) (defBody s_NoPlace_init) (defScope s_NoPlace_init) .none ikV_NoPlace idc_NoPlace ipm_NoPlace ian_NoPlace icd_NoPlace ict_NoPlace), isl_NoPlace⟩)
    (ic_NoPlace : PySem.W.codeIn K icd_NoPlace "NoPlace.__init__" = true)
    (ik_NoPlace : PySem.W.keepIn K (.ref I_NoPlace) = true)
    (in_NoPlace_what : PySem.W.findIn K (.ref C_NoPlace) "what" = some none)
    (in_NoPlace_index : PySem.W.findIn K (.ref C_NoPlace) "index" = some none)
    (ca_NoName : PySem.W.nsIn K mainGlobals "NoName" = some (some (.ref C_NoName)))
    (cl_NoName : K.lookup C_NoName = some (excClassObj nm_NoName q_NoName C_NoName N_NoName bs_NoName (.ref C_GenusError :: [.type "ValueError", .type "Exception", .type "BaseException", .type "object"]) true sn_NoName sub_NoName ab_NoName col_NoName dd_NoName m0_NoName m1_NoName m2_NoName m3_NoName m5_NoName "ValueError.__new__"))
    (cs_NoName : PySem.W.findIn K (.ref C_NoName) "__setattr__" = some (some (.builtin "object.__setattr__")))
    (cg_NoName : PySem.W.findIn K (.ref C_NoName) "__getattribute__" = some (some (.builtin "BaseException.__getattribute__")))
    (ch_NoName : PySem.W.findIn K (.ref C_NoName) "__getattr__" = some none)
    (cc_NoName : PySem.W.findIn K (.ref C_NoName) "__class__" = some (some (.builtin "object.__class__")))
    (ck_NoName : PySem.W.keepIn K (.ref C_NoName) = true)
    (ia_NoName : PySem.W.findIn K (.ref C_NoName) "__init__" = some (some (.ref I_NoName)))
    (it_NoName : PySem.W.typeIn K (.ref I_NoName) = some (.type "function"))
    (il_NoName : K.lookup I_NoName = some ⟨ioc_NoName, iod_NoName, .func (PySem.W.fnOf "__init__" "NoName.__init__" (defArgs s_NoName_init) (defBody s_NoName_init) (defScope s_NoName_init) .none ikV_NoName idc_NoName ipm_NoName ian_NoName icd_NoName ict_NoName), isl_NoName⟩)
    (ic_NoName : PySem.W.codeIn K icd_NoName "NoName.__init__" = true)
    (ik_NoName : PySem.W.keepIn K (.ref I_NoName) = true)
    (in_NoName_name : PySem.W.findIn K (.ref C_NoName) "name" = some none)
    (ca_TakenName : PySem.W.nsIn K mainGlobals "TakenName" = some (some (.ref C_TakenName)))
    (cl_TakenName : K.lookup C_TakenName = some (excClassObj nm_TakenName q_TakenName C_TakenName N_TakenName bs_TakenName (.ref C_GenusError :: [.type "ValueError", .type "Exception", .type "BaseException", .type "object"]) true sn_TakenName sub_TakenName ab_TakenName col_TakenName dd_TakenName m0_TakenName m1_TakenName m2_TakenName m3_TakenName m5_TakenName "ValueError.__new__"))
    (cs_TakenName : PySem.W.findIn K (.ref C_TakenName) "__setattr__" = some (some (.builtin "object.__setattr__")))
    (cg_TakenName : PySem.W.findIn K (.ref C_TakenName) "__getattribute__" = some (some (.builtin "BaseException.__getattribute__")))
    (ch_TakenName : PySem.W.findIn K (.ref C_TakenName) "__getattr__" = some none)
    (cc_TakenName : PySem.W.findIn K (.ref C_TakenName) "__class__" = some (some (.builtin "object.__class__")))
    (ck_TakenName : PySem.W.keepIn K (.ref C_TakenName) = true)
    (ia_TakenName : PySem.W.findIn K (.ref C_TakenName) "__init__" = some (some (.ref I_TakenName)))
    (it_TakenName : PySem.W.typeIn K (.ref I_TakenName) = some (.type "function"))
    (il_TakenName : K.lookup I_TakenName = some ⟨ioc_TakenName, iod_TakenName, .func (PySem.W.fnOf "__init__" "TakenName.__init__" (defArgs s_TakenName_init) (defBody s_TakenName_init) (defScope s_TakenName_init) .none ikV_TakenName idc_TakenName ipm_TakenName ian_TakenName icd_TakenName ict_TakenName), isl_TakenName⟩)
    (ic_TakenName : PySem.W.codeIn K icd_TakenName "TakenName.__init__" = true)
    (ik_TakenName : PySem.W.keepIn K (.ref I_TakenName) = true)
    (in_TakenName_name : PySem.W.findIn K (.ref C_TakenName) "name" = some none)
    (ca_Unlike : PySem.W.nsIn K mainGlobals "Unlike" = some (some (.ref C_Unlike)))
    (cl_Unlike : K.lookup C_Unlike = some (excClassObj nm_Unlike q_Unlike C_Unlike N_Unlike bs_Unlike (.ref C_GenusError :: [.type "ValueError", .type "Exception", .type "BaseException", .type "object"]) true sn_Unlike sub_Unlike ab_Unlike col_Unlike dd_Unlike m0_Unlike m1_Unlike m2_Unlike m3_Unlike m5_Unlike "ValueError.__new__"))
    (cs_Unlike : PySem.W.findIn K (.ref C_Unlike) "__setattr__" = some (some (.builtin "object.__setattr__")))
    (cg_Unlike : PySem.W.findIn K (.ref C_Unlike) "__getattribute__" = some (some (.builtin "BaseException.__getattribute__")))
    (ch_Unlike : PySem.W.findIn K (.ref C_Unlike) "__getattr__" = some none)
    (cc_Unlike : PySem.W.findIn K (.ref C_Unlike) "__class__" = some (some (.builtin "object.__class__")))
    (ck_Unlike : PySem.W.keepIn K (.ref C_Unlike) = true)
    (ia_Unlike : PySem.W.findIn K (.ref C_Unlike) "__init__" = some (some (.ref I_Unlike)))
    (it_Unlike : PySem.W.typeIn K (.ref I_Unlike) = some (.type "function"))
    (il_Unlike : K.lookup I_Unlike = some ⟨ioc_Unlike, iod_Unlike, .func (PySem.W.fnOf "__init__" "Unlike.__init__" (defArgs s_Unlike_init) (defBody s_Unlike_init) (defScope s_Unlike_init) .none ikV_Unlike idc_Unlike ipm_Unlike ian_Unlike icd_Unlike ict_Unlike), isl_Unlike⟩)
    (ic_Unlike : PySem.W.codeIn K icd_Unlike "Unlike.__init__" = true)
    (ik_Unlike : PySem.W.keepIn K (.ref I_Unlike) = true)
    (in_Unlike_what : PySem.W.findIn K (.ref C_Unlike) "what" = some none)
    (ca_NotThere : PySem.W.nsIn K mainGlobals "NotThere" = some (some (.ref C_NotThere)))
    (cl_NotThere : K.lookup C_NotThere = some (excClassObj nm_NotThere q_NotThere C_NotThere N_NotThere bs_NotThere (.ref C_GenusError :: [.type "ValueError", .type "Exception", .type "BaseException", .type "object"]) true sn_NotThere sub_NotThere ab_NotThere col_NotThere dd_NotThere m0_NotThere m1_NotThere m2_NotThere m3_NotThere m5_NotThere "ValueError.__new__"))
    (cs_NotThere : PySem.W.findIn K (.ref C_NotThere) "__setattr__" = some (some (.builtin "object.__setattr__")))
    (cg_NotThere : PySem.W.findIn K (.ref C_NotThere) "__getattribute__" = some (some (.builtin "BaseException.__getattribute__")))
    (ch_NotThere : PySem.W.findIn K (.ref C_NotThere) "__getattr__" = some none)
    (cc_NotThere : PySem.W.findIn K (.ref C_NotThere) "__class__" = some (some (.builtin "object.__class__")))
    (ck_NotThere : PySem.W.keepIn K (.ref C_NotThere) = true)
    (ia_NotThere : PySem.W.findIn K (.ref C_NotThere) "__init__" = some (some (.ref I_NotThere)))
    (it_NotThere : PySem.W.typeIn K (.ref I_NotThere) = some (.type "function"))
    (il_NotThere : K.lookup I_NotThere = some ⟨ioc_NotThere, iod_NotThere, .func (PySem.W.fnOf "__init__" "NotThere.__init__" (defArgs s_NotThere_init) (defBody s_NotThere_init) (defScope s_NotThere_init) .none ikV_NotThere idc_NotThere ipm_NotThere ian_NotThere icd_NotThere ict_NotThere), isl_NotThere⟩)
    (ic_NotThere : PySem.W.codeIn K icd_NotThere "NotThere.__init__" = true)
    (ik_NotThere : PySem.W.keepIn K (.ref I_NotThere) = true)
    (in_NotThere_paper : PySem.W.findIn K (.ref C_NotThere) "paper" = some none)
    (ca_TooMany : PySem.W.nsIn K mainGlobals "TooMany" = some (some (.ref C_TooMany)))
    (cl_TooMany : K.lookup C_TooMany = some (excClassObj nm_TooMany q_TooMany C_TooMany N_TooMany bs_TooMany (.ref C_GenusError :: [.type "ValueError", .type "Exception", .type "BaseException", .type "object"]) true sn_TooMany sub_TooMany ab_TooMany col_TooMany dd_TooMany m0_TooMany m1_TooMany m2_TooMany m3_TooMany m5_TooMany "ValueError.__new__"))
    (cs_TooMany : PySem.W.findIn K (.ref C_TooMany) "__setattr__" = some (some (.builtin "object.__setattr__")))
    (cg_TooMany : PySem.W.findIn K (.ref C_TooMany) "__getattribute__" = some (some (.builtin "BaseException.__getattribute__")))
    (ch_TooMany : PySem.W.findIn K (.ref C_TooMany) "__getattr__" = some none)
    (cc_TooMany : PySem.W.findIn K (.ref C_TooMany) "__class__" = some (some (.builtin "object.__class__")))
    (ck_TooMany : PySem.W.keepIn K (.ref C_TooMany) = true)
    (ia_TooMany : PySem.W.findIn K (.ref C_TooMany) "__init__" = some (some (.ref I_TooMany)))
    (it_TooMany : PySem.W.typeIn K (.ref I_TooMany) = some (.type "function"))
    (il_TooMany : K.lookup I_TooMany = some ⟨ioc_TooMany, iod_TooMany, .func (PySem.W.fnOf "__init__" "TooMany.__init__" (defArgs s_TooMany_init) (defBody s_TooMany_init) (defScope s_TooMany_init) .none ikV_TooMany idc_TooMany ipm_TooMany ian_TooMany icd_TooMany ict_TooMany), isl_TooMany⟩)
    (ic_TooMany : PySem.W.codeIn K icd_TooMany "TooMany.__init__" = true)
    (ik_TooMany : PySem.W.keepIn K (.ref I_TooMany) = true)
    (in_TooMany_what : PySem.W.findIn K (.ref C_TooMany) "what" = some none)
    (in_TooMany_many : PySem.W.findIn K (.ref C_TooMany) "many" = some none)
    (in_TooMany_limit : PySem.W.findIn K (.ref C_TooMany) "limit" = some none)
    (ca_NotKept : PySem.W.nsIn K mainGlobals "NotKept" = some (some (.ref C_NotKept)))
    (cl_NotKept : K.lookup C_NotKept = some (excClassObj nm_NotKept q_NotKept C_NotKept N_NotKept bs_NotKept (.ref C_GenusError :: [.type "ValueError", .type "Exception", .type "BaseException", .type "object"]) true sn_NotKept sub_NotKept ab_NotKept col_NotKept dd_NotKept m0_NotKept m1_NotKept m2_NotKept m3_NotKept m5_NotKept "ValueError.__new__"))
    (cs_NotKept : PySem.W.findIn K (.ref C_NotKept) "__setattr__" = some (some (.builtin "object.__setattr__")))
    (cg_NotKept : PySem.W.findIn K (.ref C_NotKept) "__getattribute__" = some (some (.builtin "BaseException.__getattribute__")))
    (ch_NotKept : PySem.W.findIn K (.ref C_NotKept) "__getattr__" = some none)
    (cc_NotKept : PySem.W.findIn K (.ref C_NotKept) "__class__" = some (some (.builtin "object.__class__")))
    (ck_NotKept : PySem.W.keepIn K (.ref C_NotKept) = true)
    (ia_NotKept : PySem.W.findIn K (.ref C_NotKept) "__init__" = some (some (.ref I_NotKept)))
    (it_NotKept : PySem.W.typeIn K (.ref I_NotKept) = some (.type "function"))
    (il_NotKept : K.lookup I_NotKept = some ⟨ioc_NotKept, iod_NotKept, .func (PySem.W.fnOf "__init__" "NotKept.__init__" (defArgs s_NotKept_init) (defBody s_NotKept_init) (defScope s_NotKept_init) .none ikV_NotKept idc_NotKept ipm_NotKept ian_NotKept icd_NotKept ict_NotKept), isl_NotKept⟩)
    (ic_NotKept : PySem.W.codeIn K icd_NotKept "NotKept.__init__" = true)
    (ik_NotKept : PySem.W.keepIn K (.ref I_NotKept) = true)
    (in_NotKept_promise : PySem.W.findIn K (.ref C_NotKept) "promise" = some none)
    (in_NotKept_witness : PySem.W.findIn K (.ref C_NotKept) "witness" = some none)
    (ca_NothingToUndo : PySem.W.nsIn K mainGlobals "NothingToUndo" = some (some (.ref C_NothingToUndo)))
    (cl_NothingToUndo : K.lookup C_NothingToUndo = some (excClassObj nm_NothingToUndo q_NothingToUndo C_NothingToUndo N_NothingToUndo bs_NothingToUndo (.ref C_GenusError :: [.type "ValueError", .type "Exception", .type "BaseException", .type "object"]) true sn_NothingToUndo sub_NothingToUndo ab_NothingToUndo col_NothingToUndo dd_NothingToUndo m0_NothingToUndo m1_NothingToUndo m2_NothingToUndo m3_NothingToUndo m5_NothingToUndo "ValueError.__new__"))
    (cs_NothingToUndo : PySem.W.findIn K (.ref C_NothingToUndo) "__setattr__" = some (some (.builtin "object.__setattr__")))
    (cg_NothingToUndo : PySem.W.findIn K (.ref C_NothingToUndo) "__getattribute__" = some (some (.builtin "BaseException.__getattribute__")))
    (ch_NothingToUndo : PySem.W.findIn K (.ref C_NothingToUndo) "__getattr__" = some none)
    (cc_NothingToUndo : PySem.W.findIn K (.ref C_NothingToUndo) "__class__" = some (some (.builtin "object.__class__")))
    (ck_NothingToUndo : PySem.W.keepIn K (.ref C_NothingToUndo) = true)
    (cx_NothingToUndo : PySem.W.excIn K C_NothingToUndo [.type "ValueError", .type "Exception", .type "BaseException", .type "object"] "ValueError.__new__" = true)
    (ca_NothingToRedo : PySem.W.nsIn K mainGlobals "NothingToRedo" = some (some (.ref C_NothingToRedo)))
    (cl_NothingToRedo : K.lookup C_NothingToRedo = some (excClassObj nm_NothingToRedo q_NothingToRedo C_NothingToRedo N_NothingToRedo bs_NothingToRedo (.ref C_GenusError :: [.type "ValueError", .type "Exception", .type "BaseException", .type "object"]) true sn_NothingToRedo sub_NothingToRedo ab_NothingToRedo col_NothingToRedo dd_NothingToRedo m0_NothingToRedo m1_NothingToRedo m2_NothingToRedo m3_NothingToRedo m5_NothingToRedo "ValueError.__new__"))
    (cs_NothingToRedo : PySem.W.findIn K (.ref C_NothingToRedo) "__setattr__" = some (some (.builtin "object.__setattr__")))
    (cg_NothingToRedo : PySem.W.findIn K (.ref C_NothingToRedo) "__getattribute__" = some (some (.builtin "BaseException.__getattribute__")))
    (ch_NothingToRedo : PySem.W.findIn K (.ref C_NothingToRedo) "__getattr__" = some none)
    (cc_NothingToRedo : PySem.W.findIn K (.ref C_NothingToRedo) "__class__" = some (some (.builtin "object.__class__")))
    (ck_NothingToRedo : PySem.W.keepIn K (.ref C_NothingToRedo) = true)
    (cx_NothingToRedo : PySem.W.excIn K C_NothingToRedo [.type "ValueError", .type "Exception", .type "BaseException", .type "object"] "ValueError.__new__" = true)
    (nod : [C_GenusError, C_BadNumber, C_BadRow, C_BadTable, C_BadForm, C_BadBook, C_BadName, C_BadText, C_NoPlace, C_NoName, C_TakenName, C_Unlike, C_NotThere, C_TooMany, C_NotKept, C_NothingToUndo, C_NothingToRedo].Nodup)
    : ∃ a : Ad, Tx K mg a ∧ a.f_law = fa ∧ (∀ (s : Shared) (v : Value), BindsTo s a.d_law ⟨[v], []⟩ [("script", v)]) ∧ (∀ p ∈ tbs a, K.lookup p.2 = none) ∧ ∀ p ∈ tbs a, ∃ x ∈ (["_law_refused"] : List Str), PySem.W.tabIn K x = some p := by
  have e := hfa.symm.trans (PySem.W.mg_of X G a41)
  cases e
  have F0 := fun_mk (st := s_is_integer) l0 c0 k0
  have F1 := fun_mk (st := s_pair) l1 c1 k1
  have F2 := fun_mk (st := s_in_lowest) l2 c2 k2
  have F3 := fun_mk (st := s_added) l3 c3 k3
  have F4 := fun_mk (st := s_opposite) l4 c4 k4
  have F5 := fun_mk (st := s_divided) l5 c5 k5
  have F6 := fun_mk (st := s_less_by) l6 c6 k6
  have F7 := fun_mk (st := s_sign_by) l7 c7 k7
  have F8 := fun_mk (st := s_primes_of) l8 c8 k8
  have F9 := fun_mk (st := s_free_of_squares) l9 c9 k9
  have F10 := fun_mk (st := s_fundamental_by) l10 c10 k10
  have F11 := fun_mk (st := s_fundamental_of) l11 c11 k11
  have F12 := fun_mk (st := s_need_mark) l12 c12 k12
  have F13 := fun_mk (st := s_prime_mark) l13 c13 k13
  have F14 := fun_mk (st := s_mark_by) l14 c14 k14
  have F15 := fun_mk (st := s_mark_of) l15 c15 k15
  have F16 := fun_mk (st := s_marks_to) l16 c16 k16
  have F17 := fun_mk (st := s_bernoulli_by) l17 c17 k17
  have F18 := fun_mk (st := s_bernoulli_of) l18 c18 k18
  have F19 := fun_mk (st := s__law_pen) l19 c19 k19
  have F20 := fun_mk (st := s__law_draw) l20 c20 k20
  have F21 := fun_mk (st := s__law_pick) l21 c21 k21
  have F22 := fun_mk (st := s__law_is) l22 c22 k22
  have F23 := fun_mk (st := s__law_divisor) l23 c23 k23
  have F24 := fun_mk (st := s__law_low) l24 c24 k24
  have F25 := fun_mk (st := s__law_pair) l25 c25 k25
  have F26 := fun_mk (st := s__law_plus) l26 c26 k26
  have F27 := fun_mk (st := s__law_opposite) l27 c27 k27
  have F28 := fun_mk (st := s__law_minus) l28 c28 k28
  have F29 := fun_mk (st := s__law_fault) l29 c29 k29
  have F30 := fun_mk (st := s__law_kinds) l30 c30 k30
  have F31 := fun_mk (st := s__law_more_kinds) l31 c31 k31
  have F32 := fun_mk (st := s__law_times_in) l32 c32 k32
  have F33 := fun_mk (st := s__law_primes_in) l33 c33 k33
  have F34 := fun_mk (st := s__law_square_sign) l34 c34 k34
  have F35 := fun_mk (st := s__law_fundamental) l35 c35 k35
  have F36 := fun_mk (st := s__law_mark) l36 c36 k36
  have F37 := fun_mk (st := s__law_drawn_base) l37 c37 k37
  have F38 := fun_mk (st := s__law_sum) l38 c38 k38
  have F39 := fun_mk (st := s__law_classes) l39 c39 k39
  have F40 := fun_mk (st := s__law_refused) l40 c40 k40
  have F41 := fun_mk (st := s_law) l41 c41 k41
  have Fi_BadNumber := fun_mk (st := s_BadNumber_init) il_BadNumber ic_BadNumber ik_BadNumber
  have Fi_BadRow := fun_mk (st := s_BadRow_init) il_BadRow ic_BadRow ik_BadRow
  have Fi_BadTable := fun_mk (st := s_BadTable_init) il_BadTable ic_BadTable ik_BadTable
  have Fi_BadForm := fun_mk (st := s_BadForm_init) il_BadForm ic_BadForm ik_BadForm
  have Fi_BadBook := fun_mk (st := s_BadBook_init) il_BadBook ic_BadBook ik_BadBook
  have Fi_BadName := fun_mk (st := s_BadName_init) il_BadName ic_BadName ik_BadName
  have Fi_BadText := fun_mk (st := s_BadText_init) il_BadText ic_BadText ik_BadText
  have Fi_NoPlace := fun_mk (st := s_NoPlace_init) il_NoPlace ic_NoPlace ik_NoPlace
  have Fi_NoName := fun_mk (st := s_NoName_init) il_NoName ic_NoName ik_NoName
  have Fi_TakenName := fun_mk (st := s_TakenName_init) il_TakenName ic_TakenName ik_TakenName
  have Fi_Unlike := fun_mk (st := s_Unlike_init) il_Unlike ic_Unlike ik_Unlike
  have Fi_NotThere := fun_mk (st := s_NotThere_init) il_NotThere ic_NotThere ik_NotThere
  have Fi_TooMany := fun_mk (st := s_TooMany_init) il_TooMany ic_TooMany ik_TooMany
  have Fi_NotKept := fun_mk (st := s_NotKept_init) il_NotKept ic_NotKept ik_NotKept
  have ti40 : PySem.W.tabIn K "_law_refused" = some (cc40, tb40) := by simp only [PySem.W.tabIn, a40, l40, lc40, lt40, PySem.W.fnOf]
  refine ⟨{ f_is_integer := f0, d_is_integer := PySem.W.fnOf "is_integer" "is_integer" (defArgs s_is_integer) (defBody s_is_integer) (defScope s_is_integer) .none kV0 dc0 pm0 an0 cd0 ct0, f_pair := f1, d_pair := PySem.W.fnOf "pair" "pair" (defArgs s_pair) (defBody s_pair) (defScope s_pair) .none kV1 dc1 pm1 an1 cd1 ct1, f_in_lowest := f2, d_in_lowest := PySem.W.fnOf "in_lowest" "in_lowest" (defArgs s_in_lowest) (defBody s_in_lowest) (defScope s_in_lowest) .none kV2 dc2 pm2 an2 cd2 ct2, f_added := f3, d_added := PySem.W.fnOf "added" "added" (defArgs s_added) (defBody s_added) (defScope s_added) .none kV3 dc3 pm3 an3 cd3 ct3, f_opposite := f4, d_opposite := PySem.W.fnOf "opposite" "opposite" (defArgs s_opposite) (defBody s_opposite) (defScope s_opposite) .none kV4 dc4 pm4 an4 cd4 ct4, f_divided := f5, d_divided := PySem.W.fnOf "divided" "divided" (defArgs s_divided) (defBody s_divided) (defScope s_divided) .none kV5 dc5 pm5 an5 cd5 ct5, f_less_by := f6, d_less_by := PySem.W.fnOf "less_by" "less_by" (defArgs s_less_by) (defBody s_less_by) (defScope s_less_by) .none kV6 dc6 pm6 an6 cd6 ct6, f_sign_by := f7, d_sign_by := PySem.W.fnOf "sign_by" "sign_by" (defArgs s_sign_by) (defBody s_sign_by) (defScope s_sign_by) .none kV7 dc7 pm7 an7 cd7 ct7, f_primes_of := f8, d_primes_of := PySem.W.fnOf "primes_of" "primes_of" (defArgs s_primes_of) (defBody s_primes_of) (defScope s_primes_of) .none kV8 dc8 pm8 an8 cd8 ct8, f_free_of_squares := f9, d_free_of_squares := PySem.W.fnOf "free_of_squares" "free_of_squares" (defArgs s_free_of_squares) (defBody s_free_of_squares) (defScope s_free_of_squares) .none kV9 dc9 pm9 an9 cd9 ct9, f_fundamental_by := f10, d_fundamental_by := PySem.W.fnOf "fundamental_by" "fundamental_by" (defArgs s_fundamental_by) (defBody s_fundamental_by) (defScope s_fundamental_by) .none kV10 dc10 pm10 an10 cd10 ct10, f_fundamental_of := f11, d_fundamental_of := PySem.W.fnOf "fundamental_of" "fundamental_of" (defArgs s_fundamental_of) (defBody s_fundamental_of) (defScope s_fundamental_of) .none kV11 dc11 pm11 an11 cd11 ct11, f_need_mark := f12, d_need_mark := PySem.W.fnOf "need_mark" "need_mark" (defArgs s_need_mark) (defBody s_need_mark) (defScope s_need_mark) .none kV12 dc12 pm12 an12 cd12 ct12, f_prime_mark := f13, d_prime_mark := PySem.W.fnOf "prime_mark" "prime_mark" (defArgs s_prime_mark) (defBody s_prime_mark) (defScope s_prime_mark) .none kV13 dc13 pm13 an13 cd13 ct13, f_mark_by := f14, d_mark_by := PySem.W.fnOf "mark_by" "mark_by" (defArgs s_mark_by) (defBody s_mark_by) (defScope s_mark_by) .none kV14 dc14 pm14 an14 cd14 ct14, f_mark_of := f15, d_mark_of := PySem.W.fnOf "mark_of" "mark_of" (defArgs s_mark_of) (defBody s_mark_of) (defScope s_mark_of) .none kV15 dc15 pm15 an15 cd15 ct15, f_marks_to := f16, d_marks_to := PySem.W.fnOf "marks_to" "marks_to" (defArgs s_marks_to) (defBody s_marks_to) (defScope s_marks_to) .none kV16 dc16 pm16 an16 cd16 ct16, f_bernoulli_by := f17, d_bernoulli_by := PySem.W.fnOf "bernoulli_by" "bernoulli_by" (defArgs s_bernoulli_by) (defBody s_bernoulli_by) (defScope s_bernoulli_by) .none kV17 dc17 pm17 an17 cd17 ct17, f_bernoulli_of := f18, d_bernoulli_of := PySem.W.fnOf "bernoulli_of" "bernoulli_of" (defArgs s_bernoulli_of) (defBody s_bernoulli_of) (defScope s_bernoulli_of) .none kV18 dc18 pm18 an18 cd18 ct18, f__law_pen := f19, d__law_pen := PySem.W.fnOf "_law_pen" "_law_pen" (defArgs s__law_pen) (defBody s__law_pen) (defScope s__law_pen) .none kV19 dc19 pm19 an19 cd19 ct19, f__law_draw := f20, d__law_draw := PySem.W.fnOf "_law_draw" "_law_draw" (defArgs s__law_draw) (defBody s__law_draw) (defScope s__law_draw) .none kV20 dc20 pm20 an20 cd20 ct20, f__law_pick := f21, d__law_pick := PySem.W.fnOf "_law_pick" "_law_pick" (defArgs s__law_pick) (defBody s__law_pick) (defScope s__law_pick) .none kV21 dc21 pm21 an21 cd21 ct21, f__law_is := f22, d__law_is := PySem.W.fnOf "_law_is" "_law_is" (defArgs s__law_is) (defBody s__law_is) (defScope s__law_is) .none kV22 dc22 pm22 an22 cd22 ct22, f__law_divisor := f23, d__law_divisor := PySem.W.fnOf "_law_divisor" "_law_divisor" (defArgs s__law_divisor) (defBody s__law_divisor) (defScope s__law_divisor) .none kV23 dc23 pm23 an23 cd23 ct23, f__law_low := f24, d__law_low := PySem.W.fnOf "_law_low" "_law_low" (defArgs s__law_low) (defBody s__law_low) (defScope s__law_low) .none kV24 dc24 pm24 an24 cd24 ct24, f__law_pair := f25, d__law_pair := PySem.W.fnOf "_law_pair" "_law_pair" (defArgs s__law_pair) (defBody s__law_pair) (defScope s__law_pair) .none kV25 dc25 pm25 an25 cd25 ct25, f__law_plus := f26, d__law_plus := PySem.W.fnOf "_law_plus" "_law_plus" (defArgs s__law_plus) (defBody s__law_plus) (defScope s__law_plus) .none kV26 dc26 pm26 an26 cd26 ct26, f__law_opposite := f27, d__law_opposite := PySem.W.fnOf "_law_opposite" "_law_opposite" (defArgs s__law_opposite) (defBody s__law_opposite) (defScope s__law_opposite) .none kV27 dc27 pm27 an27 cd27 ct27, f__law_minus := f28, d__law_minus := PySem.W.fnOf "_law_minus" "_law_minus" (defArgs s__law_minus) (defBody s__law_minus) (defScope s__law_minus) .none kV28 dc28 pm28 an28 cd28 ct28, f__law_fault := f29, d__law_fault := PySem.W.fnOf "_law_fault" "_law_fault" (defArgs s__law_fault) (defBody s__law_fault) (defScope s__law_fault) .none kV29 dc29 pm29 an29 cd29 ct29, f__law_kinds := f30, d__law_kinds := PySem.W.fnOf "_law_kinds" "_law_kinds" (defArgs s__law_kinds) (defBody s__law_kinds) (defScope s__law_kinds) .none kV30 dc30 pm30 an30 cd30 ct30, f__law_more_kinds := f31, d__law_more_kinds := PySem.W.fnOf "_law_more_kinds" "_law_more_kinds" (defArgs s__law_more_kinds) (defBody s__law_more_kinds) (defScope s__law_more_kinds) .none kV31 dc31 pm31 an31 cd31 ct31, f__law_times_in := f32, d__law_times_in := PySem.W.fnOf "_law_times_in" "_law_times_in" (defArgs s__law_times_in) (defBody s__law_times_in) (defScope s__law_times_in) .none kV32 dc32 pm32 an32 cd32 ct32, f__law_primes_in := f33, d__law_primes_in := PySem.W.fnOf "_law_primes_in" "_law_primes_in" (defArgs s__law_primes_in) (defBody s__law_primes_in) (defScope s__law_primes_in) .none kV33 dc33 pm33 an33 cd33 ct33, f__law_square_sign := f34, d__law_square_sign := PySem.W.fnOf "_law_square_sign" "_law_square_sign" (defArgs s__law_square_sign) (defBody s__law_square_sign) (defScope s__law_square_sign) .none kV34 dc34 pm34 an34 cd34 ct34, f__law_fundamental := f35, d__law_fundamental := PySem.W.fnOf "_law_fundamental" "_law_fundamental" (defArgs s__law_fundamental) (defBody s__law_fundamental) (defScope s__law_fundamental) .none kV35 dc35 pm35 an35 cd35 ct35, f__law_mark := f36, d__law_mark := PySem.W.fnOf "_law_mark" "_law_mark" (defArgs s__law_mark) (defBody s__law_mark) (defScope s__law_mark) .none kV36 dc36 pm36 an36 cd36 ct36, f__law_drawn_base := f37, d__law_drawn_base := PySem.W.fnOf "_law_drawn_base" "_law_drawn_base" (defArgs s__law_drawn_base) (defBody s__law_drawn_base) (defScope s__law_drawn_base) .none kV37 dc37 pm37 an37 cd37 ct37, f__law_sum := f38, d__law_sum := PySem.W.fnOf "_law_sum" "_law_sum" (defArgs s__law_sum) (defBody s__law_sum) (defScope s__law_sum) .none kV38 dc38 pm38 an38 cd38 ct38, f__law_classes := f39, d__law_classes := PySem.W.fnOf "_law_classes" "_law_classes" (defArgs s__law_classes) (defBody s__law_classes) (defScope s__law_classes) .none kV39 dc39 pm39 an39 cd39 ct39, f__law_refused := f40, d__law_refused := PySem.W.fnOf "_law_refused" "_law_refused" (defArgs s__law_refused) (defBody s__law_refused) (defScope s__law_refused) .none kV40 dc40 pm40 an40 (.ref cc40) ct40, f_law := fa, d_law := PySem.W.fnOf "law" "law" (defArgs s_law) (defBody s_law) (defScope s_law) .none kV41 dc41 pm41 an41 cd41 ct41, cc__law_refused := cc40, tb__law_refused := tb40, c_GenusError := C_GenusError, c_BadNumber := C_BadNumber, i_BadNumber := I_BadNumber, di_BadNumber := PySem.W.fnOf "__init__" "BadNumber.__init__" (defArgs s_BadNumber_init) (defBody s_BadNumber_init) (defScope s_BadNumber_init) .none ikV_BadNumber idc_BadNumber ipm_BadNumber ian_BadNumber icd_BadNumber ict_BadNumber, c_BadRow := C_BadRow, i_BadRow := I_BadRow, di_BadRow := PySem.W.fnOf "__init__" "BadRow.__init__" (defArgs s_BadRow_init) (defBody s_BadRow_init) (defScope s_BadRow_init) .none ikV_BadRow idc_BadRow ipm_BadRow ian_BadRow icd_BadRow ict_BadRow, c_BadTable := C_BadTable, i_BadTable := I_BadTable, di_BadTable := PySem.W.fnOf "__init__" "BadTable.__init__" (defArgs s_BadTable_init) (defBody s_BadTable_init) (defScope s_BadTable_init) .none ikV_BadTable idc_BadTable ipm_BadTable ian_BadTable icd_BadTable ict_BadTable, c_BadForm := C_BadForm, i_BadForm := I_BadForm, di_BadForm := PySem.W.fnOf "__init__" "BadForm.__init__" (defArgs s_BadForm_init) (defBody s_BadForm_init) (defScope s_BadForm_init) .none ikV_BadForm idc_BadForm ipm_BadForm ian_BadForm icd_BadForm ict_BadForm, c_BadBook := C_BadBook, i_BadBook := I_BadBook, di_BadBook := PySem.W.fnOf "__init__" "BadBook.__init__" (defArgs s_BadBook_init) (defBody s_BadBook_init) (defScope s_BadBook_init) .none ikV_BadBook idc_BadBook ipm_BadBook ian_BadBook icd_BadBook ict_BadBook, c_BadName := C_BadName, i_BadName := I_BadName, di_BadName := PySem.W.fnOf "__init__" "BadName.__init__" (defArgs s_BadName_init) (defBody s_BadName_init) (defScope s_BadName_init) .none ikV_BadName idc_BadName ipm_BadName ian_BadName icd_BadName ict_BadName, c_BadText := C_BadText, i_BadText := I_BadText, di_BadText := PySem.W.fnOf "__init__" "BadText.__init__" (defArgs s_BadText_init) (defBody s_BadText_init) (defScope s_BadText_init) .none ikV_BadText idc_BadText ipm_BadText ian_BadText icd_BadText ict_BadText, c_NoPlace := C_NoPlace, i_NoPlace := I_NoPlace, di_NoPlace := PySem.W.fnOf "__init__" "NoPlace.__init__" (defArgs s_NoPlace_init) (defBody s_NoPlace_init) (defScope s_NoPlace_init) .none ikV_NoPlace idc_NoPlace ipm_NoPlace ian_NoPlace icd_NoPlace ict_NoPlace, c_NoName := C_NoName, i_NoName := I_NoName, di_NoName := PySem.W.fnOf "__init__" "NoName.__init__" (defArgs s_NoName_init) (defBody s_NoName_init) (defScope s_NoName_init) .none ikV_NoName idc_NoName ipm_NoName ian_NoName icd_NoName ict_NoName, c_TakenName := C_TakenName, i_TakenName := I_TakenName, di_TakenName := PySem.W.fnOf "__init__" "TakenName.__init__" (defArgs s_TakenName_init) (defBody s_TakenName_init) (defScope s_TakenName_init) .none ikV_TakenName idc_TakenName ipm_TakenName ian_TakenName icd_TakenName ict_TakenName, c_Unlike := C_Unlike, i_Unlike := I_Unlike, di_Unlike := PySem.W.fnOf "__init__" "Unlike.__init__" (defArgs s_Unlike_init) (defBody s_Unlike_init) (defScope s_Unlike_init) .none ikV_Unlike idc_Unlike ipm_Unlike ian_Unlike icd_Unlike ict_Unlike, c_NotThere := C_NotThere, i_NotThere := I_NotThere, di_NotThere := PySem.W.fnOf "__init__" "NotThere.__init__" (defArgs s_NotThere_init) (defBody s_NotThere_init) (defScope s_NotThere_init) .none ikV_NotThere idc_NotThere ipm_NotThere ian_NotThere icd_NotThere ict_NotThere, c_TooMany := C_TooMany, i_TooMany := I_TooMany, di_TooMany := PySem.W.fnOf "__init__" "TooMany.__init__" (defArgs s_TooMany_init) (defBody s_TooMany_init) (defScope s_TooMany_init) .none ikV_TooMany idc_TooMany ipm_TooMany ian_TooMany icd_TooMany ict_TooMany, c_NotKept := C_NotKept, i_NotKept := I_NotKept, di_NotKept := PySem.W.fnOf "__init__" "NotKept.__init__" (defArgs s_NotKept_init) (defBody s_NotKept_init) (defScope s_NotKept_init) .none ikV_NotKept idc_NotKept ipm_NotKept ian_NotKept icd_NotKept ict_NotKept, c_NothingToUndo := C_NothingToUndo, c_NothingToRedo := C_NothingToRedo }, ?_, rfl, fun s v => .of_eq rfl, ?_, ?_⟩
  rotate_left
  · exact fun p hp => by
      simp only [tbs, List.mem_cons, List.not_mem_nil, or_false] at hp
      rcases hp with rfl
      · exact nt40
  · exact fun p hp => by
      simp only [tbs, List.mem_cons, List.not_mem_nil, or_false] at hp
      rcases hp with rfl
      · exact ⟨"_law_refused", by simp, ti40⟩
  exact { F_is_integer := F0, g_is_integer := PySem.W.mg_of X G a0, b_is_integer := F0.binds (fun _ _ _ _ _ _ us hl => match us, hl with | [_], _ => rfl), F_pair := F1, g_pair := PySem.W.mg_of X G a1, b_pair := F1.binds (fun _ _ _ _ _ _ us hl => match us, hl with | [_], _ => rfl), F_in_lowest := F2, g_in_lowest := PySem.W.mg_of X G a2, b_in_lowest := F2.binds (fun _ _ _ _ _ _ us hl => match us, hl with | [_, _], _ => rfl), F_added := F3, g_added := PySem.W.mg_of X G a3, b_added := F3.binds (fun _ _ _ _ _ _ us hl => match us, hl with | [_, _], _ => rfl), F_opposite := F4, g_opposite := PySem.W.mg_of X G a4, b_opposite := F4.binds (fun _ _ _ _ _ _ us hl => match us, hl with | [_], _ => rfl), F_divided := F5, g_divided := PySem.W.mg_of X G a5, b_divided := F5.binds (fun _ _ _ _ _ _ us hl => match us, hl with | [_, _], _ => rfl), F_less_by := F6, g_less_by := PySem.W.mg_of X G a6, b_less_by := F6.binds (fun _ _ _ _ _ _ us hl => match us, hl with | [_, _], _ => rfl), F_sign_by := F7, g_sign_by := PySem.W.mg_of X G a7, b_sign_by := F7.binds (fun _ _ _ _ _ _ us hl => match us, hl with | [_, _], _ => rfl), F_primes_of := F8, g_primes_of := PySem.W.mg_of X G a8, b_primes_of := F8.binds (fun _ _ _ _ _ _ us hl => match us, hl with | [_], _ => rfl), F_free_of_squares := F9, g_free_of_squares := PySem.W.mg_of X G a9, b_free_of_squares := F9.binds (fun _ _ _ _ _ _ us hl => match us, hl with | [_], _ => rfl), F_fundamental_by := F10, g_fundamental_by := PySem.W.mg_of X G a10, b_fundamental_by := F10.binds (fun _ _ _ _ _ _ us hl => match us, hl with | [_], _ => rfl), F_fundamental_of := F11, g_fundamental_of := PySem.W.mg_of X G a11, b_fundamental_of := F11.binds (fun _ _ _ _ _ _ us hl => match us, hl with | [_], _ => rfl), F_need_mark := F12, g_need_mark := PySem.W.mg_of X G a12, b_need_mark := F12.binds (fun _ _ _ _ _ _ us hl => match us, hl with | [_], _ => rfl), F_prime_mark := F13, g_prime_mark := PySem.W.mg_of X G a13, b_prime_mark := F13.binds (fun _ _ _ _ _ _ us hl => match us, hl with | [_, _], _ => rfl), F_mark_by := F14, g_mark_by := PySem.W.mg_of X G a14, b_mark_by := F14.binds (fun _ _ _ _ _ _ us hl => match us, hl with | [_, _], _ => rfl), F_mark_of := F15, g_mark_of := PySem.W.mg_of X G a15, b_mark_of := F15.binds (fun _ _ _ _ _ _ us hl => match us, hl with | [_, _], _ => rfl), F_marks_to := F16, g_marks_to := PySem.W.mg_of X G a16, b_marks_to := F16.binds (fun _ _ _ _ _ _ us hl => match us, hl with | [_, _], _ => rfl), F_bernoulli_by := F17, g_bernoulli_by := PySem.W.mg_of X G a17, b_bernoulli_by := F17.binds (fun _ _ _ _ _ _ us hl => match us, hl with | [_, _], _ => rfl), F_bernoulli_of := F18, g_bernoulli_of := PySem.W.mg_of X G a18, b_bernoulli_of := F18.binds (fun _ _ _ _ _ _ us hl => match us, hl with | [_, _], _ => rfl), F__law_pen := F19, g__law_pen := PySem.W.mg_of X G a19, b__law_pen := F19.binds (fun _ _ _ _ _ _ us hl => match us, hl with | [_], _ => rfl), F__law_draw := F20, g__law_draw := PySem.W.mg_of X G a20, b__law_draw := F20.binds (fun _ _ _ _ _ _ us hl => match us, hl with | [_, _], _ => rfl), F__law_pick := F21, g__law_pick := PySem.W.mg_of X G a21, b__law_pick := F21.binds (fun _ _ _ _ _ _ us hl => match us, hl with | [_, _], _ => rfl), F__law_is := F22, g__law_is := PySem.W.mg_of X G a22, b__law_is := F22.binds (fun _ _ _ _ _ _ us hl => match us, hl with | [_, _], _ => rfl), F__law_divisor := F23, g__law_divisor := PySem.W.mg_of X G a23, b__law_divisor := F23.binds (fun _ _ _ _ _ _ us hl => match us, hl with | [_, _], _ => rfl), F__law_low := F24, g__law_low := PySem.W.mg_of X G a24, b__law_low := F24.binds (fun _ _ _ _ _ _ us hl => match us, hl with | [_, _], _ => rfl), F__law_pair := F25, g__law_pair := PySem.W.mg_of X G a25, b__law_pair := F25.binds (fun _ _ _ _ _ _ us hl => match us, hl with | [_], _ => rfl), F__law_plus := F26, g__law_plus := PySem.W.mg_of X G a26, b__law_plus := F26.binds (fun _ _ _ _ _ _ us hl => match us, hl with | [_, _], _ => rfl), F__law_opposite := F27, g__law_opposite := PySem.W.mg_of X G a27, b__law_opposite := F27.binds (fun _ _ _ _ _ _ us hl => match us, hl with | [_], _ => rfl), F__law_minus := F28, g__law_minus := PySem.W.mg_of X G a28, b__law_minus := F28.binds (fun _ _ _ _ _ _ us hl => match us, hl with | [_, _], _ => rfl), F__law_fault := F29, g__law_fault := PySem.W.mg_of X G a29, b__law_fault := F29.binds (fun _ _ _ _ _ _ us hl => match us, hl with | [_], _ => rfl), F__law_kinds := F30, g__law_kinds := PySem.W.mg_of X G a30, b__law_kinds := F30.binds (fun _ _ _ _ _ _ us hl => match us, hl with | [_], _ => rfl), F__law_more_kinds := F31, g__law_more_kinds := PySem.W.mg_of X G a31, b__law_more_kinds := F31.binds (fun _ _ _ _ _ _ us hl => match us, hl with | [_], _ => rfl), F__law_times_in := F32, g__law_times_in := PySem.W.mg_of X G a32, b__law_times_in := F32.binds (fun _ _ _ _ _ _ us hl => match us, hl with | [_, _], _ => rfl), F__law_primes_in := F33, g__law_primes_in := PySem.W.mg_of X G a33, b__law_primes_in := F33.binds (fun _ _ _ _ _ _ us hl => match us, hl with | [_], _ => rfl), F__law_square_sign := F34, g__law_square_sign := PySem.W.mg_of X G a34, b__law_square_sign := F34.binds (fun _ _ _ _ _ _ us hl => match us, hl with | [_, _], _ => rfl), F__law_fundamental := F35, g__law_fundamental := PySem.W.mg_of X G a35, b__law_fundamental := F35.binds (fun _ _ _ _ _ _ us hl => match us, hl with | [_], _ => rfl), F__law_mark := F36, g__law_mark := PySem.W.mg_of X G a36, b__law_mark := F36.binds (fun _ _ _ _ _ _ us hl => match us, hl with | [_, _], _ => rfl), F__law_drawn_base := F37, g__law_drawn_base := PySem.W.mg_of X G a37, b__law_drawn_base := F37.binds (fun _ _ _ _ _ _ us hl => match us, hl with | [_], _ => rfl), F__law_sum := F38, g__law_sum := PySem.W.mg_of X G a38, b__law_sum := F38.binds (fun _ _ _ _ _ _ us hl => match us, hl with | [_, _], _ => rfl), F__law_classes := F39, g__law_classes := PySem.W.mg_of X G a39, b__law_classes := F39.binds (fun _ _ _ _ _ _ us hl => match us, hl with | [_], _ => rfl), F__law_refused := F40, g__law_refused := PySem.W.mg_of X G a40, b__law_refused := F40.binds (fun _ _ _ _ _ _ us hl => match us, hl with | [_, _], _ => rfl), F_law := F41, g_law := PySem.W.mg_of X G a41, b_law := F41.binds (fun _ _ _ _ _ _ us hl => match us, hl with | [_], _ => rfl), n_ValueError := PySem.W.mg_none_of X G z_ValueError, n_abs := PySem.W.mg_none_of X G z_abs, n_bool := PySem.W.mg_none_of X G z_bool, n_int := PySem.W.mg_none_of X G z_int, n_isinstance := PySem.W.mg_none_of X G z_isinstance, n_len := PySem.W.mg_none_of X G z_len, n_list := PySem.W.mg_none_of X G z_list, n_max := PySem.W.mg_none_of X G z_max, n_range := PySem.W.mg_none_of X G z_range, n_repr := PySem.W.mg_none_of X G z_repr, n_str := PySem.W.mg_none_of X G z_str, n_sum := PySem.W.mg_none_of X G z_sum, n_tuple := PySem.W.mg_none_of X G z_tuple, m_gcd := PySem.W.mg_of X G zm_gcd, k_MOST_NUMBER := ⟨_, PySem.W.mg_of X G zk_MOST_NUMBER⟩, k_MOST_MARK := ⟨_, PySem.W.mg_of X G zk_MOST_MARK⟩, cd__law_refused := rfl, tn := tnd, eb := { kn := ekn, kt := ekt }, e_GenusError := { cls := ⟨_, _, _, _, _, _, _, _, _, _, _, _, _, _, cl_GenusError⟩, sa := cs_GenusError, ga := cg_GenusError, gg := ch_GenusError, ka := cc_GenusError, kp := ck_GenusError }, g_GenusError := PySem.W.mg_of X G ca_GenusError, e_BadNumber := { cls := ⟨_, _, _, _, _, _, _, _, _, _, _, _, _, _, cl_BadNumber⟩, sa := cs_BadNumber, ga := cg_BadNumber, gg := ch_BadNumber, ka := cc_BadNumber, kp := ck_BadNumber }, g_BadNumber := PySem.W.mg_of X G ca_BadNumber, i_BadNumber := ia_BadNumber, ti_BadNumber := it_BadNumber, Fi_BadNumber := Fi_BadNumber, bi_BadNumber := Fi_BadNumber.binds (fun _ _ _ _ _ _ us hl => match us, hl with | [_, _, _], _ => rfl), no_BadNumber_what := in_BadNumber_what, no_BadNumber_number := in_BadNumber_number, e_BadRow := { cls := ⟨_, _, _, _, _, _, _, _, _, _, _, _, _, _, cl_BadRow⟩, sa := cs_BadRow, ga := cg_BadRow, gg := ch_BadRow, ka := cc_BadRow, kp := ck_BadRow }, g_BadRow := PySem.W.mg_of X G ca_BadRow, i_BadRow := ia_BadRow, ti_BadRow := it_BadRow, Fi_BadRow := Fi_BadRow, bi_BadRow := Fi_BadRow.binds (fun _ _ _ _ _ _ us hl => match us, hl with | [_, _, _], _ => rfl), no_BadRow_what := in_BadRow_what, no_BadRow_row := in_BadRow_row, e_BadTable := { cls := ⟨_, _, _, _, _, _, _, _, _, _, _, _, _, _, cl_BadTable⟩, sa := cs_BadTable, ga := cg_BadTable, gg := ch_BadTable, ka := cc_BadTable, kp := ck_BadTable }, g_BadTable := PySem.W.mg_of X G ca_BadTable, i_BadTable := ia_BadTable, ti_BadTable := it_BadTable, Fi_BadTable := Fi_BadTable, bi_BadTable := Fi_BadTable.binds (fun _ _ _ _ _ _ us hl => match us, hl with | [_, _], _ => rfl), no_BadTable_what := in_BadTable_what, e_BadForm := { cls := ⟨_, _, _, _, _, _, _, _, _, _, _, _, _, _, cl_BadForm⟩, sa := cs_BadForm, ga := cg_BadForm, gg := ch_BadForm, ka := cc_BadForm, kp := ck_BadForm }, g_BadForm := PySem.W.mg_of X G ca_BadForm, i_BadForm := ia_BadForm, ti_BadForm := it_BadForm, Fi_BadForm := Fi_BadForm, bi_BadForm := Fi_BadForm.binds (fun _ _ _ _ _ _ us hl => match us, hl with | [_, _], _ => rfl), no_BadForm_what := in_BadForm_what, e_BadBook := { cls := ⟨_, _, _, _, _, _, _, _, _, _, _, _, _, _, cl_BadBook⟩, sa := cs_BadBook, ga := cg_BadBook, gg := ch_BadBook, ka := cc_BadBook, kp := ck_BadBook }, g_BadBook := PySem.W.mg_of X G ca_BadBook, i_BadBook := ia_BadBook, ti_BadBook := it_BadBook, Fi_BadBook := Fi_BadBook, bi_BadBook := Fi_BadBook.binds (fun _ _ _ _ _ _ us hl => match us, hl with | [_, _], _ => rfl), no_BadBook_what := in_BadBook_what, e_BadName := { cls := ⟨_, _, _, _, _, _, _, _, _, _, _, _, _, _, cl_BadName⟩, sa := cs_BadName, ga := cg_BadName, gg := ch_BadName, ka := cc_BadName, kp := ck_BadName }, g_BadName := PySem.W.mg_of X G ca_BadName, i_BadName := ia_BadName, ti_BadName := it_BadName, Fi_BadName := Fi_BadName, bi_BadName := Fi_BadName.binds (fun _ _ _ _ _ _ us hl => match us, hl with | [_, _], _ => rfl), no_BadName_name := in_BadName_name, e_BadText := { cls := ⟨_, _, _, _, _, _, _, _, _, _, _, _, _, _, cl_BadText⟩, sa := cs_BadText, ga := cg_BadText, gg := ch_BadText, ka := cc_BadText, kp := ck_BadText }, g_BadText := PySem.W.mg_of X G ca_BadText, i_BadText := ia_BadText, ti_BadText := it_BadText, Fi_BadText := Fi_BadText, bi_BadText := Fi_BadText.binds (fun _ _ _ _ _ _ us hl => match us, hl with | [_, _, _], _ => rfl), no_BadText_line := in_BadText_line, no_BadText_word := in_BadText_word, e_NoPlace := { cls := ⟨_, _, _, _, _, _, _, _, _, _, _, _, _, _, cl_NoPlace⟩, sa := cs_NoPlace, ga := cg_NoPlace, gg := ch_NoPlace, ka := cc_NoPlace, kp := ck_NoPlace }, g_NoPlace := PySem.W.mg_of X G ca_NoPlace, i_NoPlace := ia_NoPlace, ti_NoPlace := it_NoPlace, Fi_NoPlace := Fi_NoPlace, bi_NoPlace := Fi_NoPlace.binds (fun _ _ _ _ _ _ us hl => match us, hl with | [_, _, _], _ => rfl), no_NoPlace_what := in_NoPlace_what, no_NoPlace_index := in_NoPlace_index, e_NoName := { cls := ⟨_, _, _, _, _, _, _, _, _, _, _, _, _, _, cl_NoName⟩, sa := cs_NoName, ga := cg_NoName, gg := ch_NoName, ka := cc_NoName, kp := ck_NoName }, g_NoName := PySem.W.mg_of X G ca_NoName, i_NoName := ia_NoName, ti_NoName := it_NoName, Fi_NoName := Fi_NoName, bi_NoName := Fi_NoName.binds (fun _ _ _ _ _ _ us hl => match us, hl with | [_, _], _ => rfl), no_NoName_name := in_NoName_name, e_TakenName := { cls := ⟨_, _, _, _, _, _, _, _, _, _, _, _, _, _, cl_TakenName⟩, sa := cs_TakenName, ga := cg_TakenName, gg := ch_TakenName, ka := cc_TakenName, kp := ck_TakenName }, g_TakenName := PySem.W.mg_of X G ca_TakenName, i_TakenName := ia_TakenName, ti_TakenName := it_TakenName, Fi_TakenName := Fi_TakenName, bi_TakenName := Fi_TakenName.binds (fun _ _ _ _ _ _ us hl => match us, hl with | [_, _], _ => rfl), no_TakenName_name := in_TakenName_name, e_Unlike := { cls := ⟨_, _, _, _, _, _, _, _, _, _, _, _, _, _, cl_Unlike⟩, sa := cs_Unlike, ga := cg_Unlike, gg := ch_Unlike, ka := cc_Unlike, kp := ck_Unlike }, g_Unlike := PySem.W.mg_of X G ca_Unlike, i_Unlike := ia_Unlike, ti_Unlike := it_Unlike, Fi_Unlike := Fi_Unlike, bi_Unlike := Fi_Unlike.binds (fun _ _ _ _ _ _ us hl => match us, hl with | [_, _], _ => rfl), no_Unlike_what := in_Unlike_what, e_NotThere := { cls := ⟨_, _, _, _, _, _, _, _, _, _, _, _, _, _, cl_NotThere⟩, sa := cs_NotThere, ga := cg_NotThere, gg := ch_NotThere, ka := cc_NotThere, kp := ck_NotThere }, g_NotThere := PySem.W.mg_of X G ca_NotThere, i_NotThere := ia_NotThere, ti_NotThere := it_NotThere, Fi_NotThere := Fi_NotThere, bi_NotThere := Fi_NotThere.binds (fun _ _ _ _ _ _ us hl => match us, hl with | [_, _], _ => rfl), no_NotThere_paper := in_NotThere_paper, e_TooMany := { cls := ⟨_, _, _, _, _, _, _, _, _, _, _, _, _, _, cl_TooMany⟩, sa := cs_TooMany, ga := cg_TooMany, gg := ch_TooMany, ka := cc_TooMany, kp := ck_TooMany }, g_TooMany := PySem.W.mg_of X G ca_TooMany, i_TooMany := ia_TooMany, ti_TooMany := it_TooMany, Fi_TooMany := Fi_TooMany, bi_TooMany := Fi_TooMany.binds (fun _ _ _ _ _ _ us hl => match us, hl with | [_, _, _, _], _ => rfl), no_TooMany_what := in_TooMany_what, no_TooMany_many := in_TooMany_many, no_TooMany_limit := in_TooMany_limit, e_NotKept := { cls := ⟨_, _, _, _, _, _, _, _, _, _, _, _, _, _, cl_NotKept⟩, sa := cs_NotKept, ga := cg_NotKept, gg := ch_NotKept, ka := cc_NotKept, kp := ck_NotKept }, g_NotKept := PySem.W.mg_of X G ca_NotKept, i_NotKept := ia_NotKept, ti_NotKept := it_NotKept, Fi_NotKept := Fi_NotKept, bi_NotKept := Fi_NotKept.binds (fun _ _ _ _ _ _ us hl => match us, hl with | [_, _, _], _ => rfl), no_NotKept_promise := in_NotKept_promise, no_NotKept_witness := in_NotKept_witness, e_NothingToUndo := { cls := ⟨_, _, _, _, _, _, _, _, _, _, _, _, _, _, cl_NothingToUndo⟩, sa := cs_NothingToUndo, ga := cg_NothingToUndo, gg := ch_NothingToUndo, ka := cc_NothingToUndo, kp := ck_NothingToUndo }, g_NothingToUndo := PySem.W.mg_of X G ca_NothingToUndo, x_NothingToUndo := cx_NothingToUndo, e_NothingToRedo := { cls := ⟨_, _, _, _, _, _, _, _, _, _, _, _, _, _, cl_NothingToRedo⟩, sa := cs_NothingToRedo, ga := cg_NothingToRedo, gg := ch_NothingToRedo, ka := cc_NothingToRedo, kp := ck_NothingToRedo }, g_NothingToRedo := PySem.W.mg_of X G ca_NothingToRedo, x_NothingToRedo := cx_NothingToRedo, ne := nod }
end Law

set_option Elab.async false
set_option linter.all false
open PySem PySem.W PyProof.Rows
set_option maxRecDepth 100000 in
set_option maxHeartbeats 0 in
theorem PySem.Challenge.cw_genuspapers_k11_whole_marks_and_sums_holds : PySem.Challenge.rw_genuspapers_k11_whole_marks_and_sums.Holds := by
  w_on; o_law; k_head; (case hw => w_witness2)
  k_fill
  refine G.walkGT (l := PySem.Challenge.rw_genuspapers_k11_whole_marks_and_sums) (k := 12) (["_law_refused"] : List Str) rfl rfl (by decide +kernel) (by decide +kernel) ⟨by decide, by decide, rfl, fun _ => rfl⟩ (fun w h y => PySem.W.km_in_of y) ?F
  case F =>
    intro w mg fa h KX G hmg
    refine Exists.elim (?a : ∃ a : Law.Ad, Law.Tx _ mg a ∧ a.f_law = fa ∧ (∀ (s : Shared) (v : Value), BindsTo s a.d_law ⟨[v], []⟩ [("script", v)]) ∧ (∀ p ∈ Law.tbs a, List.lookup p.2 _ = none) ∧ ∀ p ∈ Law.tbs a, ∃ x ∈ ((["_law_refused"] : List Str) : List Str), PySem.W.tabIn _ x = some p) fun a q => ⟨a.d_law, Law.tbs a, q.2.2.2.1, q.2.2.2.2, q.2.2.1, fun base M hS TB => q.2.1 ▸ Law.ok_law q.1 (Law.sy_mk q.1 hS TB)⟩
    case a =>
    refine' Law.all_mk KX G hmg ?a0 ?l0 ?c0 ?k0 ?a1 ?l1 ?c1 ?k1 ?a2 ?l2 ?c2 ?k2 ?a3 ?l3 ?c3 ?k3 ?a4 ?l4 ?c4 ?k4 ?a5 ?l5 ?c5 ?k5 ?a6 ?l6 ?c6 ?k6 ?a7 ?l7 ?c7 ?k7 ?a8 ?l8 ?c8 ?k8 ?a9 ?l9 ?c9 ?k9 ?a10 ?l10 ?c10 ?k10 ?a11 ?l11 ?c11 ?k11 ?a12 ?l12 ?c12 ?k12 ?a13 ?l13 ?c13 ?k13 ?a14 ?l14 ?c14 ?k14 ?a15 ?l15 ?c15 ?k15 ?a16 ?l16 ?c16 ?k16 ?a17 ?l17 ?c17 ?k17 ?a18 ?l18 ?c18 ?k18 ?a19 ?l19 ?c19 ?k19 ?a20 ?l20 ?c20 ?k20 ?a21 ?l21 ?c21 ?k21 ?a22 ?l22 ?c22 ?k22 ?a23 ?l23 ?c23 ?k23 ?a24 ?l24 ?c24 ?k24 ?a25 ?l25 ?c25 ?k25 ?a26 ?l26 ?c26 ?k26 ?a27 ?l27 ?c27 ?k27 ?a28 ?l28 ?c28 ?k28 ?a29 ?l29 ?c29 ?k29 ?a30 ?l30 ?c30 ?k30 ?a31 ?l31 ?c31 ?k31 ?a32 ?l32 ?c32 ?k32 ?a33 ?l33 ?c33 ?k33 ?a34 ?l34 ?c34 ?k34 ?a35 ?l35 ?c35 ?k35 ?a36 ?l36 ?c36 ?k36 ?a37 ?l37 ?c37 ?k37 ?a38 ?l38 ?c38 ?k38 ?a39 ?l39 ?c39 ?k39 ?a40 ?l40 ?c40 ?lc40 ?lt40 ?nt40 ?k40 ?a41 ?l41 ?c41 ?k41 ?tnd ?z_ValueError ?z_abs ?z_bool ?z_int ?z_isinstance ?z_len ?z_list ?z_max ?z_range ?z_repr ?z_str ?z_sum ?z_tuple ?zm_gcd ?zk_MOST_NUMBER ?zk_MOST_MARK ?ekn ?ekt ?ca_GenusError ?cl_GenusError ?cs_GenusError ?cg_GenusError ?ch_GenusError ?cc_GenusError ?ck_GenusError ?ca_BadNumber ?cl_BadNumber ?cs_BadNumber ?cg_BadNumber ?ch_BadNumber ?cc_BadNumber ?ck_BadNumber ?ia_BadNumber ?it_BadNumber ?il_BadNumber ?ic_BadNumber ?ik_BadNumber ?in_BadNumber_what ?in_BadNumber_number ?ca_BadRow ?cl_BadRow ?cs_BadRow ?cg_BadRow ?ch_BadRow ?cc_BadRow ?ck_BadRow ?ia_BadRow ?it_BadRow ?il_BadRow ?ic_BadRow ?ik_BadRow ?in_BadRow_what ?in_BadRow_row ?ca_BadTable ?cl_BadTable ?cs_BadTable ?cg_BadTable ?ch_BadTable ?cc_BadTable ?ck_BadTable ?ia_BadTable ?it_BadTable ?il_BadTable ?ic_BadTable ?ik_BadTable ?in_BadTable_what ?ca_BadForm ?cl_BadForm ?cs_BadForm ?cg_BadForm ?ch_BadForm ?cc_BadForm ?ck_BadForm ?ia_BadForm ?it_BadForm ?il_BadForm ?ic_BadForm ?ik_BadForm ?in_BadForm_what ?ca_BadBook ?cl_BadBook ?cs_BadBook ?cg_BadBook ?ch_BadBook ?cc_BadBook ?ck_BadBook ?ia_BadBook ?it_BadBook ?il_BadBook ?ic_BadBook ?ik_BadBook ?in_BadBook_what ?ca_BadName ?cl_BadName ?cs_BadName ?cg_BadName ?ch_BadName ?cc_BadName ?ck_BadName ?ia_BadName ?it_BadName ?il_BadName ?ic_BadName ?ik_BadName ?in_BadName_name ?ca_BadText ?cl_BadText ?cs_BadText ?cg_BadText ?ch_BadText ?cc_BadText ?ck_BadText ?ia_BadText ?it_BadText ?il_BadText ?ic_BadText ?ik_BadText ?in_BadText_line ?in_BadText_word ?ca_NoPlace ?cl_NoPlace ?cs_NoPlace ?cg_NoPlace ?ch_NoPlace ?cc_NoPlace ?ck_NoPlace ?ia_NoPlace ?it_NoPlace ?il_NoPlace ?ic_NoPlace ?ik_NoPlace ?in_NoPlace_what ?in_NoPlace_index ?ca_NoName ?cl_NoName ?cs_NoName ?cg_NoName ?ch_NoName ?cc_NoName ?ck_NoName ?ia_NoName ?it_NoName ?il_NoName ?ic_NoName ?ik_NoName ?in_NoName_name ?ca_TakenName ?cl_TakenName ?cs_TakenName ?cg_TakenName ?ch_TakenName ?cc_TakenName ?ck_TakenName ?ia_TakenName ?it_TakenName ?il_TakenName ?ic_TakenName ?ik_TakenName ?in_TakenName_name ?ca_Unlike ?cl_Unlike ?cs_Unlike ?cg_Unlike ?ch_Unlike ?cc_Unlike ?ck_Unlike ?ia_Unlike ?it_Unlike ?il_Unlike ?ic_Unlike ?ik_Unlike ?in_Unlike_what ?ca_NotThere ?cl_NotThere ?cs_NotThere ?cg_NotThere ?ch_NotThere ?cc_NotThere ?ck_NotThere ?ia_NotThere ?it_NotThere ?il_NotThere ?ic_NotThere ?ik_NotThere ?in_NotThere_paper ?ca_TooMany ?cl_TooMany ?cs_TooMany ?cg_TooMany ?ch_TooMany ?cc_TooMany ?ck_TooMany ?ia_TooMany ?it_TooMany ?il_TooMany ?ic_TooMany ?ik_TooMany ?in_TooMany_what ?in_TooMany_many ?in_TooMany_limit ?ca_NotKept ?cl_NotKept ?cs_NotKept ?cg_NotKept ?ch_NotKept ?cc_NotKept ?ck_NotKept ?ia_NotKept ?it_NotKept ?il_NotKept ?ic_NotKept ?ik_NotKept ?in_NotKept_promise ?in_NotKept_witness ?ca_NothingToUndo ?cl_NothingToUndo ?cs_NothingToUndo ?cg_NothingToUndo ?ch_NothingToUndo ?cc_NothingToUndo ?ck_NothingToUndo ?cx_NothingToUndo ?ca_NothingToRedo ?cl_NothingToRedo ?cs_NothingToRedo ?cg_NothingToRedo ?ch_NothingToRedo ?cc_NothingToRedo ?ck_NothingToRedo ?cx_NothingToRedo ?nod
    (case a0 => k_is)
    (case l0 => k_is)
    (case c0 => k_is)
    (case k0 => k_is)
    (case a1 => k_is)
    (case l1 => k_is)
    (case c1 => k_is)
    (case k1 => k_is)
    (case a2 => k_is)
    (case l2 => k_is)
    (case c2 => k_is)
    (case k2 => k_is)
    (case a3 => k_is)
    (case l3 => k_is)
    (case c3 => k_is)
    (case k3 => k_is)
    (case a4 => k_is)
    (case l4 => k_is)
    (case c4 => k_is)
    (case k4 => k_is)
    (case a5 => k_is)
    (case l5 => k_is)
    (case c5 => k_is)
    (case k5 => k_is)
    (case a6 => k_is)
    (case l6 => k_is)
    (case c6 => k_is)
    (case k6 => k_is)
    (case a7 => k_is)
    (case l7 => k_is)
    (case c7 => k_is)
    (case k7 => k_is)
    (case a8 => k_is)
    (case l8 => k_is)
    (case c8 => k_is)
    (case k8 => k_is)
    (case a9 => k_is)
    (case l9 => k_is)
    (case c9 => k_is)
    (case k9 => k_is)
    (case a10 => k_is)
    (case l10 => k_is)
    (case c10 => k_is)
    (case k10 => k_is)
    (case a11 => k_is)
    (case l11 => k_is)
    (case c11 => k_is)
    (case k11 => k_is)
    (case a12 => k_is)
    (case l12 => k_is)
    (case c12 => k_is)
    (case k12 => k_is)
    (case a13 => k_is)
    (case l13 => k_is)
    (case c13 => k_is)
    (case k13 => k_is)
    (case a14 => k_is)
    (case l14 => k_is)
    (case c14 => k_is)
    (case k14 => k_is)
    (case a15 => k_is)
    (case l15 => k_is)
    (case c15 => k_is)
    (case k15 => k_is)
    (case a16 => k_is)
    (case l16 => k_is)
    (case c16 => k_is)
    (case k16 => k_is)
    (case a17 => k_is)
    (case l17 => k_is)
    (case c17 => k_is)
    (case k17 => k_is)
    (case a18 => k_is)
    (case l18 => k_is)
    (case c18 => k_is)
    (case k18 => k_is)
    (case a19 => k_is)
    (case l19 => k_is)
    (case c19 => k_is)
    (case k19 => k_is)
    (case a20 => k_is)
    (case l20 => k_is)
    (case c20 => k_is)
    (case k20 => k_is)
    (case a21 => k_is)
    (case l21 => k_is)
    (case c21 => k_is)
    (case k21 => k_is)
    (case a22 => k_is)
    (case l22 => k_is)
    (case c22 => k_is)
    (case k22 => k_is)
    (case a23 => k_is)
    (case l23 => k_is)
    (case c23 => k_is)
    (case k23 => k_is)
    (case a24 => k_is)
    (case l24 => k_is)
    (case c24 => k_is)
    (case k24 => k_is)
    (case a25 => k_is)
    (case l25 => k_is)
    (case c25 => k_is)
    (case k25 => k_is)
    (case a26 => k_is)
    (case l26 => k_is)
    (case c26 => k_is)
    (case k26 => k_is)
    (case a27 => k_is)
    (case l27 => k_is)
    (case c27 => k_is)
    (case k27 => k_is)
    (case a28 => k_is)
    (case l28 => k_is)
    (case c28 => k_is)
    (case k28 => k_is)
    (case a29 => k_is)
    (case l29 => k_is)
    (case c29 => k_is)
    (case k29 => k_is)
    (case a30 => k_is)
    (case l30 => k_is)
    (case c30 => k_is)
    (case k30 => k_is)
    (case a31 => k_is)
    (case l31 => k_is)
    (case c31 => k_is)
    (case k31 => k_is)
    (case a32 => k_is)
    (case l32 => k_is)
    (case c32 => k_is)
    (case k32 => k_is)
    (case a33 => k_is)
    (case l33 => k_is)
    (case c33 => k_is)
    (case k33 => k_is)
    (case a34 => k_is)
    (case l34 => k_is)
    (case c34 => k_is)
    (case k34 => k_is)
    (case a35 => k_is)
    (case l35 => k_is)
    (case c35 => k_is)
    (case k35 => k_is)
    (case a36 => k_is)
    (case l36 => k_is)
    (case c36 => k_is)
    (case k36 => k_is)
    (case a37 => k_is)
    (case l37 => k_is)
    (case c37 => k_is)
    (case k37 => k_is)
    (case a38 => k_is)
    (case l38 => k_is)
    (case c38 => k_is)
    (case k38 => k_is)
    (case a39 => k_is)
    (case l39 => k_is)
    (case c39 => k_is)
    (case k39 => k_is)
    (case a40 => k_is)
    (case l40 => k_is)
    (case c40 => k_is)
    (case lc40 => k_is)
    (case lt40 => rfl)
    (case nt40 => kernel_rfl)
    (case k40 => k_is)
    (case a41 => k_is)
    (case l41 => k_is)
    (case c41 => k_is)
    (case k41 => k_is)
    (case tnd => decide)
    (case z_ValueError => k_is)
    (case z_abs => k_is)
    (case z_bool => k_is)
    (case z_int => k_is)
    (case z_isinstance => k_is)
    (case z_len => k_is)
    (case z_list => k_is)
    (case z_max => k_is)
    (case z_range => k_is)
    (case z_repr => k_is)
    (case z_str => k_is)
    (case z_sum => k_is)
    (case z_tuple => k_is)
    (case zm_gcd => k_is)
    (case zk_MOST_NUMBER => k_is)
    (case zk_MOST_MARK => k_is)
    (case ekn => k_is)
    (case ekt => k_is)
    (case ca_GenusError => k_is)
    (case cl_GenusError => k_is)
    (case cs_GenusError => k_is)
    (case cg_GenusError => k_is)
    (case ch_GenusError => k_is)
    (case cc_GenusError => k_is)
    (case ck_GenusError => k_is)
    (case ca_BadNumber => k_is)
    (case cl_BadNumber => k_is)
    (case cs_BadNumber => k_is)
    (case cg_BadNumber => k_is)
    (case ch_BadNumber => k_is)
    (case cc_BadNumber => k_is)
    (case ck_BadNumber => k_is)
    (case ia_BadNumber => k_is)
    (case it_BadNumber => k_is)
    (case il_BadNumber => k_is)
    (case ic_BadNumber => k_is)
    (case ik_BadNumber => k_is)
    (case in_BadNumber_what => k_is)
    (case in_BadNumber_number => k_is)
    (case ca_BadRow => k_is)
    (case cl_BadRow => k_is)
    (case cs_BadRow => k_is)
    (case cg_BadRow => k_is)
    (case ch_BadRow => k_is)
    (case cc_BadRow => k_is)
    (case ck_BadRow => k_is)
    (case ia_BadRow => k_is)
    (case it_BadRow => k_is)
    (case il_BadRow => k_is)
    (case ic_BadRow => k_is)
    (case ik_BadRow => k_is)
    (case in_BadRow_what => k_is)
    (case in_BadRow_row => k_is)
    (case ca_BadTable => k_is)
    (case cl_BadTable => k_is)
    (case cs_BadTable => k_is)
    (case cg_BadTable => k_is)
    (case ch_BadTable => k_is)
    (case cc_BadTable => k_is)
    (case ck_BadTable => k_is)
    (case ia_BadTable => k_is)
    (case it_BadTable => k_is)
    (case il_BadTable => k_is)
    (case ic_BadTable => k_is)
    (case ik_BadTable => k_is)
    (case in_BadTable_what => k_is)
    (case ca_BadForm => k_is)
    (case cl_BadForm => k_is)
    (case cs_BadForm => k_is)
    (case cg_BadForm => k_is)
    (case ch_BadForm => k_is)
    (case cc_BadForm => k_is)
    (case ck_BadForm => k_is)
    (case ia_BadForm => k_is)
    (case it_BadForm => k_is)
    (case il_BadForm => k_is)
    (case ic_BadForm => k_is)
    (case ik_BadForm => k_is)
    (case in_BadForm_what => k_is)
    (case ca_BadBook => k_is)
    (case cl_BadBook => k_is)
    (case cs_BadBook => k_is)
    (case cg_BadBook => k_is)
    (case ch_BadBook => k_is)
    (case cc_BadBook => k_is)
    (case ck_BadBook => k_is)
    (case ia_BadBook => k_is)
    (case it_BadBook => k_is)
    (case il_BadBook => k_is)
    (case ic_BadBook => k_is)
    (case ik_BadBook => k_is)
    (case in_BadBook_what => k_is)
    (case ca_BadName => k_is)
    (case cl_BadName => k_is)
    (case cs_BadName => k_is)
    (case cg_BadName => k_is)
    (case ch_BadName => k_is)
    (case cc_BadName => k_is)
    (case ck_BadName => k_is)
    (case ia_BadName => k_is)
    (case it_BadName => k_is)
    (case il_BadName => k_is)
    (case ic_BadName => k_is)
    (case ik_BadName => k_is)
    (case in_BadName_name => k_is)
    (case ca_BadText => k_is)
    (case cl_BadText => k_is)
    (case cs_BadText => k_is)
    (case cg_BadText => k_is)
    (case ch_BadText => k_is)
    (case cc_BadText => k_is)
    (case ck_BadText => k_is)
    (case ia_BadText => k_is)
    (case it_BadText => k_is)
    (case il_BadText => k_is)
    (case ic_BadText => k_is)
    (case ik_BadText => k_is)
    (case in_BadText_line => k_is)
    (case in_BadText_word => k_is)
    (case ca_NoPlace => k_is)
    (case cl_NoPlace => k_is)
    (case cs_NoPlace => k_is)
    (case cg_NoPlace => k_is)
    (case ch_NoPlace => k_is)
    (case cc_NoPlace => k_is)
    (case ck_NoPlace => k_is)
    (case ia_NoPlace => k_is)
    (case it_NoPlace => k_is)
    (case il_NoPlace => k_is)
    (case ic_NoPlace => k_is)
    (case ik_NoPlace => k_is)
    (case in_NoPlace_what => k_is)
    (case in_NoPlace_index => k_is)
    (case ca_NoName => k_is)
    (case cl_NoName => k_is)
    (case cs_NoName => k_is)
    (case cg_NoName => k_is)
    (case ch_NoName => k_is)
    (case cc_NoName => k_is)
    (case ck_NoName => k_is)
    (case ia_NoName => k_is)
    (case it_NoName => k_is)
    (case il_NoName => k_is)
    (case ic_NoName => k_is)
    (case ik_NoName => k_is)
    (case in_NoName_name => k_is)
    (case ca_TakenName => k_is)
    (case cl_TakenName => k_is)
    (case cs_TakenName => k_is)
    (case cg_TakenName => k_is)
    (case ch_TakenName => k_is)
    (case cc_TakenName => k_is)
    (case ck_TakenName => k_is)
    (case ia_TakenName => k_is)
    (case it_TakenName => k_is)
    (case il_TakenName => k_is)
    (case ic_TakenName => k_is)
    (case ik_TakenName => k_is)
    (case in_TakenName_name => k_is)
    (case ca_Unlike => k_is)
    (case cl_Unlike => k_is)
    (case cs_Unlike => k_is)
    (case cg_Unlike => k_is)
    (case ch_Unlike => k_is)
    (case cc_Unlike => k_is)
    (case ck_Unlike => k_is)
    (case ia_Unlike => k_is)
    (case it_Unlike => k_is)
    (case il_Unlike => k_is)
    (case ic_Unlike => k_is)
    (case ik_Unlike => k_is)
    (case in_Unlike_what => k_is)
    (case ca_NotThere => k_is)
    (case cl_NotThere => k_is)
    (case cs_NotThere => k_is)
    (case cg_NotThere => k_is)
    (case ch_NotThere => k_is)
    (case cc_NotThere => k_is)
    (case ck_NotThere => k_is)
    (case ia_NotThere => k_is)
    (case it_NotThere => k_is)
    (case il_NotThere => k_is)
    (case ic_NotThere => k_is)
    (case ik_NotThere => k_is)
    (case in_NotThere_paper => k_is)
    (case ca_TooMany => k_is)
    (case cl_TooMany => k_is)
    (case cs_TooMany => k_is)
    (case cg_TooMany => k_is)
    (case ch_TooMany => k_is)
    (case cc_TooMany => k_is)
    (case ck_TooMany => k_is)
    (case ia_TooMany => k_is)
    (case it_TooMany => k_is)
    (case il_TooMany => k_is)
    (case ic_TooMany => k_is)
    (case ik_TooMany => k_is)
    (case in_TooMany_what => k_is)
    (case in_TooMany_many => k_is)
    (case in_TooMany_limit => k_is)
    (case ca_NotKept => k_is)
    (case cl_NotKept => k_is)
    (case cs_NotKept => k_is)
    (case cg_NotKept => k_is)
    (case ch_NotKept => k_is)
    (case cc_NotKept => k_is)
    (case ck_NotKept => k_is)
    (case ia_NotKept => k_is)
    (case it_NotKept => k_is)
    (case il_NotKept => k_is)
    (case ic_NotKept => k_is)
    (case ik_NotKept => k_is)
    (case in_NotKept_promise => k_is)
    (case in_NotKept_witness => k_is)
    (case ca_NothingToUndo => k_is)
    (case cl_NothingToUndo => k_is)
    (case cs_NothingToUndo => k_is)
    (case cg_NothingToUndo => k_is)
    (case ch_NothingToUndo => k_is)
    (case cc_NothingToUndo => k_is)
    (case ck_NothingToUndo => k_is)
    (case cx_NothingToUndo => k_exc)
    (case ca_NothingToRedo => k_is)
    (case cl_NothingToRedo => k_is)
    (case cs_NothingToRedo => k_is)
    (case cg_NothingToRedo => k_is)
    (case ch_NothingToRedo => k_is)
    (case cc_NothingToRedo => k_is)
    (case ck_NothingToRedo => k_is)
    (case cx_NothingToRedo => k_exc)
    (case nod => decide)

